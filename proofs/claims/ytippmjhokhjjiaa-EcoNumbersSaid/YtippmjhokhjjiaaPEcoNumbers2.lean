/- What EcoNumbers rests on, part 2: lemmas, no claim of its own. -/
import Derived.LoopN
import Derived.Scope
import Derived.Test.YtippmjhokhjjiaaPEcoNumbers1
section
set_option linter.unusedVariables false
set_option linter.unusedSimpArgs false
namespace Go.Ab
open Go.RowKit
theorem Evo.bury {c : Cx} {τ : Nat} {cs : List AV} (ht : c.hp τ = some (.cells cs false)) : Evo c (c.kill τ) where
  num := rfl
  base := rfl
  J := rfl
  below := Below.refl _ _
  imm := fun ad hI => by
    refine ⟨?_, fun v hv => hv⟩
    rcases hI with h1 | ⟨h1, h2, h3⟩
    · exact .inl h1
    · refine .inr ⟨h1, h2, fun hw => h3 ?_⟩
      rcases hw with ⟨i, ds, hi, hb⟩ | ⟨i, hi, hb, hlo⟩
      · by_cases he : i = τ
        · subst he; simp [Cx.kill, upd] at hi
        · simp [Cx.kill, upd, he] at hi; exact .inl ⟨i, ds, hi, hb⟩
      · by_cases he : i = τ
        · subst he; simp [Cx.kill, upd] at hi
        · simp [Cx.kill, upd, he] at hi; exact .inr ⟨i, hi, hb, hlo⟩
  ids := fun i hi => by
    by_cases he : i = τ
    · subst he; simp [Cx.kill, upd]
    · exact ⟨by simpa [Cx.kill, upd, he] using hi, rfl⟩
  tok := fun i hi h => by
    by_cases he : i = τ
    · subst he; simp [Cx.kill, upd] at h
    · simp [Cx.kill, upd, he] at h; exact ⟨h, fun vs _ hv => ⟨vs, hv, rfl⟩⟩
  cel := fun i ds ro hi h => by
    by_cases he : i = τ
    · subst he; simp [Cx.kill, upd] at h
    · simp [Cx.kill, upd, he] at h; exact ⟨ds, ro, h, rfl, fun vs _ hv => ⟨vs, hv, Nat.le_refl _⟩⟩
theorem Ok.bury {c : Cx} {nx : Nat} (K : Ok c nx) {τ : Nat} {cs : List AV} (ht : c.hp τ = some (.cells cs false)) : Ok (c.kill τ) nx := by
  have E := Evo.bury ht
  have hlive : ∀ i, (c.kill τ).live i → c.live i := by
    intro i ⟨b, hb, hn⟩
    by_cases he : i = τ
    · subst he; exact live_of ht (by simp)
    · simp [Cx.kill, upd, he] at hb; exact ⟨b, hb, hn⟩
  refine ⟨K.basele, ?_, ?_, ?_, fun i j hij hi hj => K.inj i j hij (hlive i hi) (hlive j hj), ?_⟩
  · intro i ds ro hi
    have he : i ≠ τ := fun he => by subst he; simp [Cx.kill, upd] at hi
    simp [Cx.kill, upd, he] at hi
    obtain ⟨g1, vs, rs, ty, g2, g3, g4⟩ := K.cells i ds ro hi
    exact ⟨g1, vs, rs, ty, g2, g3.evo E, g4⟩
  · intro i es hi
    have he : i ≠ τ := fun he => by subst he; simp [Cx.kill, upd] at hi
    simp [Cx.kill, upd, he] at hi
    obtain ⟨g1, ms, cl, g2, g3, g4⟩ := K.maps i es hi
    exact ⟨g1, ms, cl, g2, g3, fun j k v en hx hv => ⟨(g4 j k v en hx hv).1, (g4 j k v en hx hv).2.evo E⟩⟩
  · intro i hi
    have he : i ≠ τ := fun he => by subst he; simp [Cx.kill, upd] at hi
    simp [Cx.kill, upd, he] at hi
    exact K.toks i hi
  · intro i hi
    have he : i ≠ τ := fun he => by subst he; rw [K.fresh i hi] at ht; cases ht
    simpa [Cx.kill, upd, he] using K.fresh i hi
def Cx.ext (c : Cx) (b id : Nat) (cs' : List AV) (o : Nat) (us : List Value) : Cx :=
  { c with w := c.w.setCells (c.loc b).1 o us, loc := upd c.loc id (c.loc b), hp := upd (upd c.hp b (some (.tok false))) id (some (.cells cs' false)) }
theorem Evo.ext {c : Cx} {nx : Nat} (K : Ok c nx) {b id o : Nat} {cs cs' : List AV} {us : List Value} (hb : c.hp b = some (.cells cs false)) (hid : c.hp id = none) : Evo c (c.ext b id cs' o us) := by
  have hbi : b ≠ id := fun he => by rw [he, hid] at hb; cases hb
  have hsome : ∀ i, (c.hp i).isSome → i ≠ id := fun i hi he => by rw [he, hid] at hi; cases hi
  refine ⟨rfl, rfl, rfl, below_setCells _ _ _ _ (Below.refl _ _) (K.cells b cs _ hb).1, ?_, ?_, ?_, ?_⟩
  · intro ad hI
    have hne : ad.block ≠ (c.loc b).1 := by
      intro he
      rcases hI with ⟨h1, _⟩ | ⟨_, _, h3⟩
      · have := (K.cells b cs _ hb).1; omega
      · exact h3 (.inl ⟨b, cs, hb, he.symm⟩)
    refine ⟨?_, fun v hv => by rw [← hv]; exact World.cell?_setCells_out _ _ _ _ _ (fun h => absurd h hne)⟩
    rcases hI with h1 | ⟨h1, h2, h3⟩
    · exact .inl h1
    · refine .inr ⟨h1, by show _ < (c.w.setCells _ _ _).heap.size; rw [size_setCells]; exact h2, fun hw => h3 ?_⟩
      rcases hw with ⟨i, ds, hi, hbk⟩ | ⟨i, hi, hbk, hlo⟩
      · by_cases he : i = id
        · subst he
          simp [Cx.ext, upd] at hbk
          exact absurd hbk.symm hne
        · by_cases he' : i = b
          · subst he'; simp [Cx.ext, upd, he] at hi
          · simp [Cx.ext, upd, he, he'] at hi hbk; exact .inl ⟨i, ds, hi, hbk⟩
      · by_cases he : i = id
        · subst he; simp [Cx.ext, upd] at hi
        · by_cases he' : i = b
          · subst he'; simp [Cx.ext, upd, he] at hi
          · simp [Cx.ext, upd, he, he'] at hi hbk hlo; exact .inr ⟨i, hi, hbk, hlo⟩
  · intro i hi
    have he := hsome i hi
    by_cases he' : i = b
    · subst he'; simp [Cx.ext, upd, he]
    · refine ⟨by simpa [Cx.ext, upd, he, he'] using hi, by simp [Cx.ext, upd, he]⟩
  · intro i hi h
    have he := hsome i hi
    by_cases he' : i = b
    · subst he'; simp [Cx.ext, upd, he] at h
    · simp [Cx.ext, upd, he, he'] at h
      refine ⟨h, fun vs ty hv => ⟨vs, ?_, rfl⟩⟩
      show (c.w.setCells _ _ _).heap[_]? = _
      rw [heap_setCells_other _ _ _ _ _ (K.inj i b he' (live_of h (by simp)) (live_of hb (by simp)))]
      exact hv
  · intro i ds ro hi h
    have he := hsome i hi
    by_cases he' : i = b
    · subst he'; simp [Cx.ext, upd, he] at h
    · simp [Cx.ext, upd, he, he'] at h
      refine ⟨ds, ro, h, rfl, fun vs ty hv => ⟨vs, ?_, Nat.le_refl _⟩⟩
      have hv : (c.w.setCells (c.loc b).1 o us).heap[(c.loc i).1]? = _ := hv
      rwa [heap_setCells_other _ _ _ _ _ (K.inj i b he' (live_of h (by simp)) (live_of hb (by simp)))] at hv
theorem Ok.ext {c : Cx} {nx : Nat} (K : Ok c nx) {b id o : Nat} {cs cs' : List AV} {us : List Value} (hb : c.hp b = some (.cells cs false)) (hid : c.hp id = none) (hlt : id < nx)
    {vs rs : List Value} {ty : TypeId} (h1 : (c.w.setCells (c.loc b).1 o us).heap[(c.loc b).1]? = some (.cells (vs ++ rs).toArray ty (0, 0))) (h2 : Reps c true cs' vs) (h3 : cs'.all Ab.one = true) : Ok (c.ext b id cs' o us) nx := by
  have E := Evo.ext K (cs' := cs') (o := o) (us := us) hb hid
  have hbi : b ≠ id := fun he => by rw [he, hid] at hb; cases hb
  have lb := live_of hb (by simp)
  have hlive : ∀ i, (c.ext b id cs' o us).live i → (i = id ∨ (i ≠ id ∧ i ≠ b ∧ c.live i)) := by
    intro i ⟨bl, hbl, hn⟩
    by_cases he : i = id
    · exact .inl he
    · by_cases he' : i = b
      · subst he'; simp [Cx.ext, upd, he] at hbl; exact absurd hbl.symm hn
      · simp [Cx.ext, upd, he, he'] at hbl; exact .inr ⟨he, he', bl, hbl, hn⟩
  have hne : ∀ i bl, i ≠ b → c.hp i = some bl → bl ≠ .tok false → (c.ext b id cs' o us).w.heap[(c.loc i).1]? = c.w.heap[(c.loc i).1]? := fun i bl he' hbl hn =>
    heap_setCells_other _ _ _ _ _ (K.inj i b he' (live_of hbl hn) lb)
  have hl : ∀ i, i ≠ id → (c.ext b id cs' o us).loc i = c.loc i := fun i he => by simp [Cx.ext, upd, he]
  have hls : (c.ext b id cs' o us).loc id = c.loc b := by simp [Cx.ext, upd]
  refine ⟨?_, ?_, ?_, ?_, ?_, ?_⟩
  · show c.base ≤ (c.w.setCells _ _ _).heap.size
    rw [size_setCells]; exact K.basele
  · intro i ds ro hi
    by_cases he : i = id
    · subst he
      simp [Cx.ext, upd] at hi
      obtain ⟨rfl, rfl⟩ := hi
      rw [hls]
      exact ⟨(K.cells b cs _ hb).1, vs, rs, ty, h1, h2.evo E, h3⟩
    · have he' : i ≠ b := fun he' => by subst he'; simp [Cx.ext, upd, he] at hi
      simp [Cx.ext, upd, he, he'] at hi
      obtain ⟨g1, ws, rs', ty', g2, g3, g4⟩ := K.cells i ds ro hi
      rw [hl i he]
      exact ⟨g1, ws, rs', ty', by rw [← g2]; exact hne i _ he' hi (by simp), g3.evo E, g4⟩
  · intro i es hi
    have he : i ≠ id := fun he => by subst he; simp [Cx.ext, upd] at hi
    have he' : i ≠ b := fun he' => by subst he'; simp [Cx.ext, upd, he] at hi
    simp [Cx.ext, upd, he, he'] at hi
    obtain ⟨g1, ms, cl, g2, g3, g4⟩ := K.maps i es hi
    rw [hl i he]
    exact ⟨g1, ms, cl, by rw [← g2]; exact hne i _ he' hi (by simp), g3, fun j k v en hx hv => ⟨(g4 j k v en hx hv).1, (g4 j k v en hx hv).2.evo E⟩⟩
  · intro i hi
    have he : i ≠ id := fun he => by subst he; simp [Cx.ext, upd] at hi
    have he' : i ≠ b := fun he' => by subst he'; simp [Cx.ext, upd, he] at hi
    simp [Cx.ext, upd, he, he'] at hi
    obtain ⟨g1, ws, ty', g2⟩ := K.toks i hi
    rw [hl i he]
    exact ⟨g1, ws, ty', by rw [← g2]; exact hne i _ he' hi (by simp)⟩
  · intro i j hij hi hj
    rcases hlive i hi with rfl | ⟨hi1, hi2, hi3⟩
    · rcases hlive j hj with rfl | ⟨hj1, hj2, hj3⟩
      · exact absurd rfl hij
      · rw [hls, hl j hj1]; exact fun h => K.inj j b hj2 hj3 lb h.symm
    · rcases hlive j hj with rfl | ⟨hj1, hj2, hj3⟩
      · rw [hls, hl i hi1]; exact K.inj i b hi2 hi3 lb
      · rw [hl i hi1, hl j hj1]; exact K.inj i j hij hi3 hj3
  · intro i hi
    have he : i ≠ id := by omega
    have he' : i ≠ b := fun he => by subst he; rw [K.fresh i hi] at hb; cases hb
    simpa [Cx.ext, upd, he, he'] using K.fresh i hi
theorem Rep.ext {c : Cx} {nx : Nat} (K : Ok c nx) {b id o n cap : Nat} {cs cs' : List AV} {us : List Value} (hb : c.hp b = some (.cells cs false)) {vs rs : List Value} {ty : TypeId} (h1 : (c.w.setCells (c.loc b).1 o us).heap[(c.loc b).1]? = some (.cells (vs ++ rs).toArray ty (0, 0)))
    (hc : n ≤ cap) (hm : cap ≤ maxLen) (hs : ∀ e, 1 ≤ n → cs'.length = n * e → cap * e ≤ (vs ++ rs).length) : Rep (c.ext b id cs' o us) true (.ms id 0 n) (.slice (some ⟨(c.loc b).1, 0, none⟩) n cap) := by
  have hls : (c.ext b id cs' o us).loc id = c.loc b := by simp [Cx.ext, upd]
  have hhs : (c.ext b id cs' o us).hp id = some (.cells cs' false) := by simp [Cx.ext, upd]
  have := Rep.ms (c := c.ext b id cs' o us) id 0 n cap (by rw [hhs]; rfl) hc hm (by
    intro ds ro e hd _ hn hl ws ty' hw
    rw [hhs] at hd
    cases hd
    rw [hls] at hw
    have hw : (c.w.setCells (c.loc b).1 o us).heap[(c.loc b).1]? = _ := hw
    rw [h1] at hw
    cases hw
    have := hs e hn hl
    simpa using this)
  rwa [hls] at this
section
variable {P : Program} {o : Oper} {a : Act} {c : Cx} {e : Env} {g : G} {al : Nat → Bool} {id : Nat} {r : AV × G}
theorem src_ofM {esz : Nat} {y : AV} {v : Value} {ds : List AV} {m : Nat} (K : Ok c g.nx) (hg : c.hp = g.hp) (hr : Rep c true y v) (h : vSrcM al esz y g = some (ds, m)) (hl : ds.length = m * esz) (hz : 0 < esz) {u : TypeId} {el' : TypeId} (hu : P.underlying u = some (.slice el')) :
    ∃ news : List Value, Src P esz u v m news c.w ∧ Reps c true ds news := by
  unfold vSrcM at h
  split at h
  · rename_i ds' m' tk
    have h0 : vSrc al esz (.sl ds' m' tk) g = some (ds, m) := h
    obtain ⟨news, h1, h2⟩ := src_of K hg hr h0 hl hz hu
    exact ⟨news, h1, h2.up⟩
  · rename_i b off m'
    obtain ⟨cap, rfl, hc, hm, hsome⟩ := rep_ms hr
    split at h
    · rename_i cs ro hb
      have hb' : c.hp b = some (.cells cs ro) := by
        unfold rd at hb; split at hb
        · rw [hg]; exact hb
        · cases hb
      obtain ⟨_, vs, rs, ty', g2, g3, g4⟩ := K.cells b cs ro hb'
      cases h
      have hreps := (g3.drop off).take (m * esz)
      refine ⟨(vs.drop off).take (m * esz), ?_, hreps⟩
      refine Src.ofSlice (P := P) c.w hu ⟨(c.loc b).1, off, none⟩ m cap _ (by rw [← hreps.1, hl]) (fun j u hu => ?_) (fun u hu => g3.ones g4 u (List.mem_of_mem_drop (List.mem_of_mem_take hu)))
      rw [List.getElem?_take] at hu
      split at hu
      · rw [List.getElem?_drop] at hu
        rw [add_mk, cell_of_heap g2, List.getElem?_toArray, List.getElem?_append_left (List.getElem?_eq_some_iff.1 hu).1]
        exact hu
      · cases hu
    · cases h
  · cases h
theorem grown_doesM {o : Oper} {c' : Cx} {cs ds : List AV} {olds news : List Value} {n m esz : Nat} {el : TypeId} {zs : Array Value} (E : Evo c c') (K : Ok c' g.nx) (hid : c'.hp id = none) (hlt : id < g.nx)
    (h1 : Reps c' true cs olds) (h2 : Reps c' true ds news) (h3 : (cs ++ ds).all Ab.one = true) (hl : cs.length = n * esz) (hl' : ds.length = m * esz) {cap : Nat} (hc : n + m ≤ cap) (hm : cap ≤ maxLen) (hzs : zs.size = (cap - (n + m)) * esz)
    (hrun : (execOp a.eval o).run P c.w = .ok (.value (.slice (some ⟨c'.w.heap.size, 0, none⟩) (n + m) cap)) (c'.w.alloc (.cells ((olds ++ news).toArray ++ zs) el))) :
    Does P o a c (.ms id 0 (n + m), ⟨upd c'.hp id (some (.cells (cs ++ ds) false)), g.nx⟩) := by
  have hlen : (cs ++ ds).length = (n + m) * esz := by rw [List.length_append, hl, hl', Nat.add_mul]
  have hn : NewOk c' (.cells ((olds ++ news).toArray ++ zs) el) (.cells (cs ++ ds) false) := ⟨olds ++ news, zs.toList, el, by simp, h1.append h2, h3⟩
  have E2 := Evo.alloc K hid (.cells ((olds ++ news).toArray ++ zs) el) 0 (.cells (cs ++ ds) false)
  refine ⟨_, c'.alloc id (.cells ((olds ++ news).toArray ++ zs) el) 0 (.cells (cs ++ ds) false), _, hrun, .inl rfl, E.trans E2, K.alloc hid hlt hn, rfl, ?_⟩
  have hol : (olds ++ news).length = (n + m) * esz := by rw [← hlen, (h1.append h2).1]
  have := Rep.ms (c := c'.alloc id (.cells ((olds ++ news).toArray ++ zs) el) 0 (.cells (cs ++ ds) false)) id 0 (n + m) cap (by rw [hp_alloc_same]; rfl) hc hm (MsOk.new fun e' hn' hl'' => by
    rw [hlen] at hl''
    have he : esz = e' := Nat.eq_of_mul_eq_mul_left (by omega) hl''
    subst he
    rw [Array.size_append, hzs]
    simp only [List.size_toArray, hol]
    rw [← Nat.add_mul]
    exact Nat.mul_le_mul_right _ (by omega))
  rwa [loc_alloc_same] at this
theorem s_appM (he : EnvOk c e a) (K : Ok c g.nx) (hg : c.hp = g.hp) (hid : c.hp id = none) (hlt : id < g.nx) {esz bytes : Nat} {x y : Opd} (ho : opB P c.num o.op (.appM esz bytes x y) = true) (h : vAppM al id esz bytes (x.ev e) (y.ev e) g = some r) : Does P o a c r := by
  obtain ⟨dst, op, ty, pos, after, guard⟩ := o
  simp only [opB] at ho
  split at ho
  · rename_i cl
    obtain ⟨callee, args, argTypes⟩ := cl
    simp only [Bool.and_eq_true] at ho
    obtain ⟨⟨h1, h2⟩, h3⟩ := ho
    split at h1
    · obtain ⟨p, q, hargs, ho1, ho2⟩ := opds_two h2
      have := list_two hargs
      subst this
      have r1 := opdB_rep he ho1
      have r2 := opdB_rep he ho2
      split at h3
      · rename_i t u hty
        have := list_two hty
        subst this
        split at h3
        · rename_i el el' hu hu'
          split at h3
          · rename_i i hi
            simp only [Bool.and_eq_true, beq_iff_eq] at h3
            obtain ⟨⟨rfl, rfl⟩, h3⟩ := h3
            split at h3
            · rename_i z hz
              simp only [Bool.and_eq_true, beq_iff_eq, decide_eq_true_eq] at h3
              obtain ⟨hzs, hpos⟩ := h3
              have key : ∀ w : World, (execOp a.eval { dst := dst, op := .call { callee := .builtin .append, args := #[p, q], argTypes := #[t, u] }, type := ty, pos := pos, after := after, guard := guard }).run P w = ((Builtin.append_ #[t, u] ty #[a.eval p, a.eval q]).run P w).andThen fun v w' => .ok (.value v) w' := by
                intro w
                simp [execOp, resolve, invoke, builtin]
              unfold vAppM at h
              split at h
              · cases h
              · rename_i ds m hsrc
                split at h
                · -- nothing yet
                  rename_i hx
                  rw [hx] at r1
                  obtain ⟨ao, cap, ad, vs, hv, hc, hm, hrig, hz', hone, hreps, ha, hk, htok⟩ := rep_sl r1
                  split at h
                  · rename_i hcond
                    obtain ⟨c0, c1, c2, c4, c5⟩ := hcond
                    cases h
                    have hcap := hrig rfl
                    subst hcap
                    obtain ⟨news, S, hnews⟩ := src_ofM K hg r2 hsrc c4 hpos hu'
                    have hvs : vs = [] := by have := hreps.1; simp at this; exact List.length_eq_zero_iff.1 this.symm
                    subst hvs
                    have hold := firstCells_ab (P := P) (c := c) (esz := i.size) (n := 0) (cap := 0) hz' hreps ha hk (by simp)
                    have hgc := grownCap_le' c.w (0 + m) 0 el (by omega)
                    have hfit : Builtin.nextslicecap (0 + m) 0 * i.bytes ≤ 281474976710656 := growslice_fits (by omega) (by rw [Nat.zero_add]; omega)
                    have hzc : (Builtin.zeroCells z.cells (grownCap c.w (0 + m) 0 el - (0 + m))).size = (grownCap c.w (0 + m) 0 el - (0 + m)) * i.size := by simp [Builtin.zeroCells, hzs]
                    have E := Evo.drew c
                    have := grown_doesM (P := P) (a := a) (c := c) (g := g) (id := id) (cs := []) (olds := []) (n := 0) (o := { dst := dst, op := .call { callee := .builtin .append, args := #[p, q], argTypes := #[t, u] }, type := ty, pos := pos, after := after, guard := guard }) E K.drew hid hlt Reps.nil (hnews.evo E) (by simpa using c5) (by simp) c4 hgc.1 (by simp only [maxLen]; exact hgc.2) hzc (by
                      rw [key, hv, run_append_grow_src (P := P) c.w t u ty el i z hu hi hz ao 0 0 [] hold (a.eval q) m news S (by omega) (by omega) hfit]
                      rfl)
                    rw [← hg]
                    simp only [List.nil_append, Nat.zero_add] at this
                    exact this
                  · cases h
                · rename_i b n hx
                  rw [hx] at r1
                  obtain ⟨cap, hv, hc, hm, hsome, hms⟩ := rep_ms' r1
                  split at h
                  · rename_i cs hb
                    have hb' : c.hp b = some (.cells cs false) := by
                      unfold rd at hb; split at hb
                      · rw [hg]; exact hb
                      · cases hb
                    split at h
                    · rename_i hcond
                      obtain ⟨c0, c0', c1, c2, c3, c4, c5⟩ := hcond
                      cases h
                      obtain ⟨news, S, hnews⟩ := src_ofM K hg r2 hsrc c4 hpos hu'
                      obtain ⟨g1, vs, rs, ty', g2, g3, g4⟩ := K.cells b cs _ hb'
                      have hvl : vs.length = n * i.size := by rw [← g3.1, c3]
                      have hnl : news.length = m * i.size := by rw [← hnews.1, c4]
                      have hones : (cs ++ ds).all Ab.one = true := by rw [List.all_append, g4, c5]; rfl
                      have hsz := hms cs false i.size hb' rfl c0 c3 _ _ g2
                      simp only [List.size_toArray, List.length_append] at hsz
                      have hbid : b ≠ id := fun hh => by rw [hh, hid] at hb'; cases hb'
                      by_cases hroom : n + m ≤ cap
                      · have hmul : (n + m) * i.size ≤ cap * i.size := Nat.mul_le_mul_right _ hroom
                        rw [Nat.add_mul] at hmul
                        have hrun := run_append_room_src (P := P) c.w t u ty el i hu hi (c.loc b).1 0 n cap (a.eval q) m news S hroom (fun j hj => by
                          rw [cell_of_heap g2]
                          simp; omega) (fun j hj => by simp [World.frozen?, g2])
                        have g5 := heap_setCells_same (c.loc b).1 news (0 + n * i.size) c.w _ _ _ g2
                        have g6 : lset (vs ++ rs) (0 + n * i.size) news = (vs ++ news) ++ rs.drop (m * i.size) := by
                          rw [Nat.zero_add, ← hvl]
                          rw [lset_eq _ _ _ (by rw [List.length_append]; omega), List.take_left, ← hnl, List.drop_append]
                          simp
                        rw [g6] at g5
                        refine ⟨_, c.ext b id (cs ++ ds) (0 + n * i.size) news, .slice (some ⟨(c.loc b).1, 0, none⟩) (n + m) cap, ?_, .inl rfl, Evo.ext K hb' hid, K.ext hb' hid hlt g5 (g3.append hnews) hones, by simp [Cx.ext, hg], ?_⟩
                        · rw [key, hv, hrun]
                          rfl
                        · refine Rep.ext K hb' g5 hroom hm (fun e' hn' hl' => ?_)
                          rw [List.length_append, c3, c4, ← Nat.add_mul] at hl'
                          have he : i.size = e' := Nat.eq_of_mul_eq_mul_left (by omega) hl'
                          subst he
                          simp only [List.length_append, List.length_drop]
                          omega
                      · have hlt' : cap < n + m := by omega
                        have hold : (Builtin.firstCells i.size n (.slice (some ⟨(c.loc b).1, 0, none⟩) n cap)).run P c.w.drew = .ok vs.toArray c.w.drew := by
                          refine run_firstCells_some c.w.drew i.size n ⟨(c.loc b).1, 0, none⟩ n cap vs hvl (fun j u hu => ?_)
                          rw [add_mk, Nat.zero_add]
                          show c.w.cell? _ = _
                          rw [cell_of_heap g2, List.getElem?_toArray, List.getElem?_append_left (List.getElem?_eq_some_iff.1 hu).1]
                          exact hu
                        have hfit : Builtin.nextslicecap (n + m) cap * i.bytes ≤ 281474976710656 := growslice_fits hlt' (by omega)
                        have hgc := grownCap_le' c.w (n + m) cap el c2
                        have hzc : (Builtin.zeroCells z.cells (grownCap c.w (n + m) cap el - (n + m))).size = (grownCap c.w (n + m) cap el - (n + m)) * i.size := by simp [Builtin.zeroCells, hzs]
                        have E := (Evo.bury hb').trans (Evo.drew (c.kill b))
                        have hid' : (c.kill b).drew.hp id = none := by
                          show upd c.hp b _ id = none
                          rw [upd, if_neg (fun h => hbid h.symm)]; exact hid
                        have := grown_doesM (P := P) (a := a) (c := c) (g := g) (id := id) (o := { dst := dst, op := .call { callee := .builtin .append, args := #[p, q], argTypes := #[t, u] }, type := ty, pos := pos, after := after, guard := guard }) E (K.bury hb').drew hid' hlt (g3.evo E) (hnews.evo E) hones c3 c4 hgc.1 (by simp only [maxLen]; exact hgc.2) hzc (by
                          rw [key, hv, run_append_grow_src (P := P) c.w t u ty el i z hu hi hz _ n cap vs hold (a.eval q) m news S hlt' (by omega) hfit]
                          rfl)
                        rw [← hg]
                        exact this
                    · cases h
                  · cases h
                · rename_i b k e0 n hx
                  rw [hx] at r1
                  obtain ⟨cap, hv, hkn, hc, hm, hsome, hms⟩ := rep_mc r1
                  split at h
                  · rename_i cs hb
                    have hb' : c.hp b = some (.cells cs false) := by
                      unfold rd at hb; split at hb
                      · rw [hg]; exact hb
                      · cases hb
                    split at h
                    · rename_i hcond
                      obtain ⟨ce, cn, ck, c0', c1, c2, c3, c4, c5⟩ := hcond
                      subst ce
                      cases h
                      obtain ⟨news, S, hnews⟩ := src_ofM K hg r2 hsrc c4 hpos hu'
                      obtain ⟨g1, vs, rs, ty', g2, g3, g4⟩ := K.cells b cs _ hb'
                      have hvl : vs.length = n * i.size := by rw [← g3.1, c3]
                      have hkl : k * i.size ≤ n * i.size := Nat.mul_le_mul_right _ ck
                      have hol : (vs.take (k * i.size)).length = k * i.size := by rw [List.length_take]; omega
                      have hcl : (cs.take (k * i.size)).length = k * i.size := by rw [List.length_take]; omega
                      have hnl : news.length = m * i.size := by rw [← hnews.1, c4]
                      have g3k := g3.take (k * i.size)
                      have hones : (cs.take (k * i.size) ++ ds).all Ab.one = true := by
                        rw [List.all_append, c5, Bool.and_true]
                        rw [List.all_eq_true] at g4 ⊢; exact fun v hv => g4 v (List.mem_of_mem_take hv)
                      have hsz := hms cs false hb' c3 _ _ g2
                      simp only [List.size_toArray, List.length_append] at hsz
                      have hbid : b ≠ id := fun hh => by rw [hh, hid] at hb'; cases hb'
                      by_cases hroom : k + m ≤ cap
                      · have hmul : (k + m) * i.size ≤ cap * i.size := Nat.mul_le_mul_right _ hroom
                        rw [Nat.add_mul] at hmul
                        have hrun := run_append_room_src (P := P) c.w t u ty el i hu hi (c.loc b).1 0 k cap (a.eval q) m news S hroom (fun j hj => by
                          rw [cell_of_heap g2]
                          simp; omega) (fun j hj => by simp [World.frozen?, g2])
                        have g5 := heap_setCells_same (c.loc b).1 news (0 + k * i.size) c.w _ _ _ g2
                        have g6 : lset (vs ++ rs) (0 + k * i.size) news = (vs.take (k * i.size) ++ news) ++ (vs ++ rs).drop (k * i.size + m * i.size) := by
                          rw [Nat.zero_add]
                          rw [lset_eq _ _ _ (by rw [List.length_append]; omega), List.take_append_of_le_length (by omega), ← hnl]
                        rw [g6] at g5
                        refine ⟨_, c.ext b id (cs.take (k * i.size) ++ ds) (0 + k * i.size) news, .slice (some ⟨(c.loc b).1, 0, none⟩) (k + m) cap, ?_, .inl rfl, Evo.ext K hb' hid, K.ext hb' hid hlt g5 (g3k.append hnews) hones, by simp [Cx.ext, hg], ?_⟩
                        · rw [key, hv, hrun]
                          rfl
                        · refine Rep.ext K hb' g5 hroom hm (fun e' hn' hl' => ?_)
                          rw [List.length_append, hcl, c4, ← Nat.add_mul] at hl'
                          have he : i.size = e' := Nat.eq_of_mul_eq_mul_left (by omega) hl'
                          subst he
                          simp only [List.length_append, List.length_drop, hol]
                          omega
                      · have hlt' : cap < k + m := by omega
                        have hold : (Builtin.firstCells i.size k (.slice (some ⟨(c.loc b).1, 0, none⟩) k cap)).run P c.w.drew = .ok (vs.take (k * i.size)).toArray c.w.drew := by
                          refine run_firstCells_some c.w.drew i.size k ⟨(c.loc b).1, 0, none⟩ k cap (vs.take (k * i.size)) hol (fun j u hu => ?_)
                          rw [add_mk, Nat.zero_add]
                          show c.w.cell? _ = _
                          rw [List.getElem?_take] at hu
                          split at hu
                          · rw [cell_of_heap g2, List.getElem?_toArray, List.getElem?_append_left (List.getElem?_eq_some_iff.1 hu).1]
                            exact hu
                          · cases hu
                        have hfit : Builtin.nextslicecap (k + m) cap * i.bytes ≤ 281474976710656 := growslice_fits hlt' (by omega)
                        have hgc := grownCap_le' c.w (k + m) cap el c2
                        have hzc : (Builtin.zeroCells z.cells (grownCap c.w (k + m) cap el - (k + m))).size = (grownCap c.w (k + m) cap el - (k + m)) * i.size := by simp [Builtin.zeroCells, hzs]
                        have E := (Evo.bury hb').trans (Evo.drew (c.kill b))
                        have hid' : (c.kill b).drew.hp id = none := by
                          show upd c.hp b _ id = none
                          rw [upd, if_neg (fun h => hbid h.symm)]; exact hid
                        have := grown_doesM (P := P) (a := a) (c := c) (g := g) (id := id) (o := { dst := dst, op := .call { callee := .builtin .append, args := #[p, q], argTypes := #[t, u] }, type := ty, pos := pos, after := after, guard := guard }) E (K.bury hb').drew hid' hlt (g3k.evo E) (hnews.evo E) hones hcl c4 hgc.1 (by simp only [maxLen]; exact hgc.2) hzc (by
                          rw [key, hv, run_append_grow_src (P := P) c.w t u ty el i z hu hi hz _ k cap _ hold (a.eval q) m news S hlt' (by omega) hfit]
                          rfl)
                        rw [← hg]
                        exact this
                    · cases h
                  · cases h
                · cases h
            · cases h3
          · cases h3
        · cases h3
      · cases h3
    · cases h1
  · cases ho
theorem s_cutM (he : EnvOk c e a) (K : Ok c g.nx) (hg : c.hp = g.hp) (hid : c.hp id = none) (hlt : id < g.nx) {esz : Nat} {x hi : Opd} (ho : opB P c.num o.op (.cutM esz x hi) = true) (h : vCutM al id esz (x.ev e) (hi.ev e) g = some r) : Does P o a c r := by
  obtain ⟨dst, op, ty, pos, after, guard⟩ := o
  simp only [opB] at ho
  split at ho
  · rename_i t y hh
    simp only [Bool.and_eq_true] at ho
    obtain ⟨⟨h1, h2⟩, h3⟩ := ho
    have r1 := opdB_rep he h2
    have r2 := opdB_rep he h3
    split at h1
    · rename_i el hu
      obtain ⟨inf, hinf, hs⟩ := sizeB_some h1
      unfold vCutM at h
      split at h
      · rename_i b n kk k hx hy
        rw [hx] at r1
        rw [hy] at r2
        obtain ⟨cap, hv, hc, hm, hsome, hms⟩ := rep_ms' r1
        have hv2 := rep_i r2
        split at h
        · rename_i cs hb
          have hb' : c.hp b = some (.cells cs false) := by
            unfold rd at hb; split at hb
            · rw [hg]; exact hb
            · cases hb
          split at h
          · rename_i hcond
            obtain ⟨c0, c1, c2, c3⟩ := hcond
            cases h
            obtain ⟨g1, vs, rs, ty', g2, g3, g4⟩ := K.cells b cs _ hb'
            have e2 : (k.toNat : Int) = k := Int.toNat_of_nonneg c0
            have hkn : k.toNat ≤ n := by omega
            have hsz := hms cs false esz hb' rfl c2 c3 _ _ g2
            have hvl : vs.length = n * esz := by rw [← g3.1, c3]
            have hkm : k.toNat * esz ≤ n * esz := Nat.mul_le_mul_right _ hkn
            have g5 : (c.w.setCells (c.loc b).1 0 []).heap[(c.loc b).1]? = some (.cells (vs.take (k.toNat * esz) ++ (vs.drop (k.toNat * esz) ++ rs)).toArray ty' (0, 0)) := by
              rw [← List.append_assoc, List.take_append_drop]; exact g2
            refine ⟨_, c.ext b id (cs.take (k.toNat * esz)) 0 [], .slice (some ⟨(c.loc b).1, 0, none⟩) k.toNat cap, ?_, .inl rfl, Evo.ext K hb' hid, K.ext hb' hid hlt g5 (g3.take _) (by
              rw [List.all_eq_true] at g4 ⊢; exact fun v hv => g4 v (List.mem_of_mem_take hv)), by simp [Cx.ext, hg], ?_⟩
            · have hx2 : a.eval hh = .int kk k := hv2
              have ht : (k.toNat : Int) = k := e2
              rcases bnd_run (P := P) (w := c.w) (y := cap) (dflt := n) (oo := some hh) (oy := some hi) (z := k) he (by simpa [opdO] using h3) (by simp [evo, hy, bnd]) (by omega) (by omega) .sliceAcap with ⟨h0, _⟩ | ⟨x2, k2, h0, hx2, hr2⟩
              · cases h0
              · cases h0
                simp [execOp, hv, Instr.sliceAt, Instr.slice, Instr.sliceBounds, run_underlying hu, sizeOf, typeInfo, hinf, hs, hx2, hr2]
                exact ⟨fun _ => by simp [Addr.add], rfl⟩
            · refine Rep.ext K hb' g5 (by omega) hm (fun e' hn' hl' => ?_)
              rw [List.length_take, Nat.min_eq_left (by omega)] at hl'
              have he : esz = e' := Nat.eq_of_mul_eq_mul_left (by omega) hl'
              subst he
              rw [← List.append_assoc, List.take_append_drop]
              simpa using hsz
          · cases h
        · cases h
      · cases h
    · cases h1
  · cases ho
end
end Go.Ab
end
section
set_option linter.unusedVariables false
set_option linter.unusedSimpArgs false
namespace Go.Ab
open Go.RowKit
section
variable {P : Program} {o : Oper} {a : Act} {c : Cx} {e : Env} {g : G} {al : Nat → Bool} {r : AV × G}
theorem s_clr (he : EnvOk c e a) (K : Ok c g.nx) (hg : c.hp = g.hp) {esz : Nat} {zero : List AV} {x : Opd} (ho : opB P c.num o.op (.clr esz zero x) = true) (h : vClr al esz zero (x.ev e) g = some r) : Does P o a c r := by
  obtain ⟨dst, op, ty, pos, after, guard⟩ := o
  simp only [opB] at ho
  split at ho
  · rename_i cl
    obtain ⟨callee, args, argTypes⟩ := cl
    simp only [Bool.and_eq_true] at ho
    obtain ⟨h1, h2⟩ := ho
    split at h1
    · split at h2
      · rename_i y t ha ht
        have ha' := list_one ha
        have ht' := list_one ht
        subst ha' ht'
        simp only [Bool.and_eq_true] at h2
        obtain ⟨h3, h4⟩ := h2
        have hr := opdB_rep he h3
        split at h4
        · rename_i el hu
          simp only [Bool.and_eq_true] at h4
          obtain ⟨h5, h6⟩ := h4
          obtain ⟨i, z, hi, hz, hc, hs⟩ := zeroB_some h5
          rw [hi] at h6
          simp only [Bool.and_eq_true, beq_iff_eq, decide_eq_true_eq] at h6
          obtain ⟨h6, h8⟩ := h6
          unfold vClr at h
          split at h
          · rename_i b off n hx
            rw [hx] at hr
            obtain ⟨cap, hv, _⟩ := rep_ms hr
            split at h
            · rename_i cs hb
              have hb' : c.hp b = some (.cells cs false) := by
                unfold rd at hb; split at hb
                · rw [hg]; exact hb
                · cases hb
              split at h
              · rename_i hcnd
                obtain ⟨c0, c1, c2⟩ := hcnd
                cases h
                have hzr := constsB_rep hc c true
                have hzs : z.cells.size = esz := by
                  have := hzr.1
                  simp only [Array.length_toList] at this
                  omega
                have hcells : (Builtin.zeroCells z.cells n).toList = (List.replicate n z.cells.toList).flatten := by
                  unfold Builtin.zeroCells
                  have := flatten_range z.cells.toList (by rw [Array.length_toList]; omega) n
                  rw [Array.length_toList] at this
                  simp only [Array.toList_map, Array.toList_range]
                  rw [← this]
                  apply List.map_congr_left
                  intro j _
                  simp [getElem!_def]
                have hq : Reps c true (List.replicate n zero).flatten (List.replicate n z.cells.toList).flatten := Reps.replicate hzr _
                have hone := all_flatten (constsB_one hc) n
                have hlen : (List.replicate n zero).flatten.length = n * esz := by simp [c1]
                obtain ⟨_, vs, rs, ty', g2, g3, _⟩ := K.cells b cs _ hb'
                have hst := run_storeCells_cells (P := P) (c.loc b).1 off (List.replicate n z.cells.toList).flatten 0 c.w (fun j hj => by
                    rw [cell_of_heap g2]
                    have h9 := g3.1
                    rw [← hq.1, hlen] at hj
                    simp
                    omega) (fun j hj => by simp [World.frozen?, g2]) (hq.ones hone)
                refine ⟨.value (.tuple #[]), c.store b off cs (List.replicate n zero).flatten (List.replicate n z.cells.toList).flatten, .tuple #[], ?_, .inl rfl, Evo.store K hb' (by omega), K.store hb' hq (by omega) hone, by simp [Cx.store, hg], .tup [] rfl (fun j x v h => by simp at h)⟩
                obtain ⟨n, rfl⟩ : ∃ m, n = m + 1 := ⟨n - 1, by omega⟩
                simp only [Nat.add_zero] at hst
                rw [← hcells] at hst ⊢
                simp [execOp, hv, resolve, invoke, builtin, Builtin.clear_, run_underlying hu, zeroValue, typeInfo, hi, hz, hst, Cx.store]
              · cases h
            · cases h
          · cases h
        · cases h4
      · cases h2
    · cases h1
  · cases ho
end
end Go.Ab
end
section
set_option linter.unusedVariables false
set_option linter.unusedSimpArgs false
namespace Go.Ab
open Go.RowKit
section
variable {P : Program} {a : Act} {c : Cx} {e : Env} {g : G} {al : Nat → Bool} {lo id : Nat} {r : AV × G} {call : CS}
theorem op_sim {o : Oper} {ao : AOp} (hcall : CallOk P c.num call) (he : EnvOk c e a) (K : Ok c g.nx) (hg : c.hp = g.hp) (hid : c.hp id = none) (hlt : id < g.nx) (ho : opB P c.num o.op ao = true) (h : opE call al lo id ao e g = some r) : DoesWp P o a c r := by
  cases ao with
  | mv x => exact (s_mv he K hg ho h).wp
  | pick x y z => exact (s_pick he K hg ho h).wp
  | new z => exact (s_new he K hg hid hlt ho h).wp
  | box x => exact (s_box he K hg hid hlt ho h).wp
  | boxI x => exact (s_boxI he K hg ho h).wp
  | build z ps => exact (s_build he K hg ho h).wp
  | bsl imm n z ps => exact (s_bsl he K hg hid hlt ho h).wp
  | ld agg x => exact (s_ld he K hg ho h).wp
  | st n x y => exact (s_st he K hg ho h).wp
  | ldF agg x => exact (s_ldF he K hg ho h).wp
  | ldQ agg x t => exact (s_ldQ he K hg ho h).wp
  | stN n x y ts => exact (s_stN he K hg ho h).wp
  | stW n x y => exact (s_stW he K hg ho h).wp
  | stL n x y => exact (s_stL he K hg ho h).wp
  | nilck x => exact (s_nilck he K hg ho h).wp
  | bin op x y => exact (s_bin he K hg ho h).wp
  | eqb neg x y => exact (s_eqb he K hg ho h).wp
  | eqn neg x y => exact (s_eqn he K hg ho h).wp
  | eqs neg x => exact (s_eqs he K hg ho h).wp
  | eqa neg ks x y => exact (s_eqa he K hg ho h).wp
  | un op x => exact (s_un he K hg ho h).wp
  | conv k x => exact (s_conv he K hg ho h).wp
  | mkfn f a b => exact (s_mkfn he K hg ho h).wp
  | mkmap => exact (s_mkmap K hg hid hlt ho h).wp
  | mput m k v => exact (s_mput he K hg ho h).wp
  | mget m k => exact (s_mget he K hg ho h).wp
  | mksl z esz b l cp => exact (s_mksl he K hg hid hlt ho h).wp
  | slice esz x l hh m => exact (s_slice he K hg ho h).wp
  | sslice x l hh => exact (s_sslice he K hg ho h).wp
  | fa off x => exact (s_fa he K hg ho h).wp
  | fld off agg x => exact (s_fld he K hg ho h).wp
  | ia esz x i => exact (s_ia he K hg ho h).wp
  | iaa len esz x i => exact (s_iaa he K hg ho h).wp
  | idx len esz agg x i => exact (s_idx he K hg ho h).wp
  | sidx x i => exact (s_sidx he K hg ho h).wp
  | ext i x => exact (s_ext he K hg ho h).wp
  | len x => exact (s_len he K hg ho h).wp
  | slen x => exact (s_slen he K hg ho h).wp
  | mx x y => exact (s_mx he K hg ho h).wp
  | mn x y => exact (s_mn he K hg ho h).wp
  | app esz b x y => exact (s_app he K hg hid hlt ho h).wp
  | appM esz b x y => exact (s_appM he K hg hid hlt ho h).wp
  | cutM esz x y => exact (s_cutM he K hg hid hlt ho h).wp
  | clr esz z x => exact (s_clr he K hg ho h).wp
  | bad => cases h
  | call m f args => exact s_call hcall he K hg hid hlt ho h
end
def Keep (g g' : G) (id : Nat) : Prop := g.nx ≤ g'.nx ∧ ∀ i, i < g.nx → i ≠ id → g.hp i = none → g'.hp i = none
theorem keep_refl (g : G) (id : Nat) : Keep g g id := ⟨Nat.le_refl _, fun _ _ _ h => h⟩
theorem keep_upd (g : G) (id : Nat) (b : Option Blk) : Keep g ⟨upd g.hp id b, g.nx⟩ id := ⟨Nat.le_refl _, fun i _ hi h => by show upd _ _ _ _ = _; rw [upd, if_neg hi]; exact h⟩
theorem keep_old {g : G} {id j : Nat} {b b' : Blk} (hj : g.hp j = some b) : Keep g ⟨upd g.hp j (some b'), g.nx⟩ id := ⟨Nat.le_refl _, fun i _ hi h => by
  show upd _ _ _ _ = _
  by_cases hij : i = j
  · subst hij; rw [hj] at h; cases h
  · rw [upd, if_neg hij]; exact h⟩
theorem rd_g {g : G} {al : Nat → Bool} {i : Nat} {b : Blk} (h : rd g al i = some b) : g.hp i = some b := by
  unfold rd at h; split at h
  · exact h
  · cases h
theorem keep_map {g : G} {id : Nat} {o : Option AV} {r : AV × G} (h : vMap g o = some r) : Keep g r.2 id := by
  cases o with
  | none => cases h
  | some v => cases h; exact keep_refl _ _
theorem keep_mapL {g : G} {id : Nat} {f} {o : Option (List AV)} {r : AV × G} (h : vMapL f g o = some r) : Keep g r.2 id := by
  cases o with
  | none => cases h
  | some v => cases h; exact keep_refl _ _
def CallKeep (call : CS) : Prop := ∀ f asx g v g', call f asx g = some (v, g') → g.nx ≤ g'.nx ∧ ∀ i, i < g.nx → g.hp i = none → g'.hp i = none
theorem lock_none {hp : Nat → Option Blk} {ids : List Nat} {i : Nat} (h : hp i = none) : lock hp ids i = none := by
  rcases lock_cases hp ids i with h' | ⟨_, cs, ro, h1, _⟩
  · rw [h']; exact h
  · rw [h] at h1; cases h1
theorem opE_keep {call : CS} (hk : CallKeep call) {al : Nat → Bool} {lo id : Nat} {ao : AOp} {e : Env} {g : G} {r : AV × G} (h : opE call al lo id ao e g = some r) : Keep g r.2 id := by
  have kst : ∀ {al' n x y}, vSt al' n x y g = some r → Keep g r.2 id := by
    intro al' n x y h
    unfold vSt at h
    split at h
    · split at h
      · rename_i hb
        split at h
        · cases h; exact keep_old (rd_g hb)
        · cases h
      · cases h
    · cases h
  cases ao <;> simp only [opE] at h
  case mv => cases h; exact keep_refl _ _
  case pick => unfold vPick at h; split at h <;> first | (cases h; exact keep_refl _ _) | cases h
  case new => cases h; exact keep_upd _ _ _
  case box => unfold vBox at h; split at h <;> first | (cases h; exact keep_upd _ _ _) | cases h
  case boxI => unfold vBoxI at h; split at h <;> first | exact keep_mapL h | cases h
  case build => exact keep_mapL h
  case bsl =>
    unfold vBsl at h
    split at h
    · cases h
    · split at h
      · exact keep_mapL h
      · cases h; exact keep_upd _ _ _
  case ld =>
    unfold vLd at h
    split at h
    · exact keep_map h
    · split at h
      · exact keep_map h
      · cases h
    · cases h
  case st => exact kst h
  case stW => exact kst h
  case stN =>
    unfold vStN at h
    split at h
    · exact kst h
    · cases h
  case ldQ =>
    unfold vLdQ at h
    split at h
    · split at h
      · split at h
        · exact keep_map h
        · cases h
      · cases h
    · cases h
  case ldF =>
    unfold vLdF at h
    split at h
    · exact keep_map h
    · split at h
      · exact keep_map h
      · cases h
    · cases h
  case stL => exact kst h
  case nilck => unfold vNil at h; split at h <;> first | (cases h; exact keep_refl _ _) | cases h
  case bin => exact keep_map h
  case eqb => exact keep_map h
  case eqn => exact keep_map h
  case eqs => exact keep_map h
  case eqa => exact keep_map h
  case un => exact keep_map h
  case conv => unfold vConv at h; split at h <;> first | (cases h; exact keep_refl _ _) | cases h
  case mkfn => cases h; exact keep_refl _ _
  case mkmap => cases h; exact keep_upd _ _ _
  case mput =>
    unfold vMput at h
    split at h
    · split at h
      · rename_i hb
        split at h
        · split at h
          · cases h; exact keep_old (rd_g hb)
          · cases h
        · cases h
      · cases h
    · cases h
  case mget =>
    unfold vMget at h
    split at h
    · split at h
      · exact keep_map h
      · cases h
    · cases h
  case mksl =>
    unfold vMksl at h
    split at h
    · split at h
      · split at h
        · cases h; exact keep_upd _ _ _
        · split at h
          · cases h; exact keep_upd _ _ _
          · cases h
      · cases h
    · cases h
  case slice =>
    unfold vSlice at h
    split at h
    · split at h
      · split at h <;> first | (cases h; exact keep_refl _ _) | cases h
      · split at h <;> first | (cases h; exact keep_refl _ _) | cases h
      · cases h
    · split at h
      · split at h <;> first | (cases h; exact keep_refl _ _) | cases h
      · split at h <;> first | (cases h; exact keep_refl _ _) | cases h
      · cases h
    · cases h
  case sslice =>
    unfold vSslice at h
    split at h
    · split at h
      · split at h <;> first | (cases h; exact keep_refl _ _) | cases h
      · cases h
    · cases h
  case fa =>
    unfold vFa at h
    split at h
    · split at h <;> first | (cases h; exact keep_refl _ _) | cases h
    · cases h; exact keep_refl _ _
    · cases h
  case fld => unfold vFld at h; split at h <;> first | exact keep_map h | cases h
  case ia =>
    unfold vIa at h
    split at h
    · split at h <;> first | (cases h; exact keep_refl _ _) | cases h
    · split at h <;> first | (cases h; exact keep_refl _ _) | cases h
    · cases h
  case iaa =>
    unfold vIaa at h
    split at h
    · split at h <;> first | (cases h; exact keep_refl _ _) | cases h
    · split at h <;> first | (cases h; exact keep_refl _ _) | cases h
    · cases h
  case idx =>
    unfold vIdx at h
    split at h
    · split at h <;> first | exact keep_map h | cases h
    · cases h
  case sidx =>
    unfold vSidx at h
    split at h
    · split at h <;> first | (cases h; exact keep_refl _ _) | cases h
    · cases h
  case ext => unfold vExt at h; split at h <;> first | exact keep_map h | cases h
  case len => unfold vLen at h; split at h <;> first | (cases h; exact keep_refl _ _) | cases h
  case slen => unfold vSlen at h; split at h <;> first | (cases h; exact keep_refl _ _) | cases h
  case mx => unfold vMx at h; split at h <;> first | (cases h; exact keep_refl _ _) | cases h
  case mn => unfold vMn at h; split at h <;> first | (cases h; exact keep_refl _ _) | cases h
  case app =>
    unfold vApp at h
    split at h
    · split at h
      · cases h
      · split at h
        · split at h
          · cases h
          · split at h
            · cases h; exact keep_refl _ _
            · cases h; exact keep_upd _ _ _
          · split at h
            · rename_i htk
              split at h
              · cases h
                refine ⟨Nat.le_refl _, fun i _ hi hn => ?_⟩
                show upd _ _ _ _ = _
                rw [upd, if_neg hi, upd]
                split
                · rename_i hit; subst hit; rw [rd_g htk] at hn; cases hn
                · exact hn
              · cases h
            · cases h
        · cases h
    · cases h
  case appM =>
    unfold vAppM at h
    split at h
    · cases h
    · split at h
      · split at h
        · cases h; exact keep_upd _ _ _
        · cases h
      · split at h
        · rename_i hb
          split at h
          · cases h
            refine ⟨Nat.le_refl _, fun i _ hi hn => ?_⟩
            show upd _ _ _ _ = _
            rw [upd, if_neg hi, upd]
            split
            · rename_i hit; subst hit; rw [rd_g hb] at hn; cases hn
            · exact hn
          · cases h
        · cases h
      · split at h
        · rename_i hb
          split at h
          · cases h
            refine ⟨Nat.le_refl _, fun i _ hi hn => ?_⟩
            show upd _ _ _ _ = _
            rw [upd, if_neg hi, upd]
            split
            · rename_i hit; subst hit; rw [rd_g hb] at hn; cases hn
            · exact hn
          · cases h
        · cases h
      · cases h
  case clr =>
    unfold vClr at h
    split at h
    · split at h
      · rename_i hb
        split at h
        · cases h; exact keep_old (rd_g hb)
        · cases h
      · cases h
    · cases h
  case cutM =>
    unfold vCutM at h
    split at h
    · split at h
      · rename_i hb
        split at h
        · cases h
          refine ⟨Nat.le_refl _, fun i _ hi hn => ?_⟩
          show upd _ _ _ _ = _
          rw [upd, if_neg hi, upd]
          split
          · rename_i hit; subst hit; rw [rd_g hb] at hn; cases hn
          · exact hn
        · cases h
      · cases h
    · cases h
  case bad => cases h
  case call =>
    rename_i m f args
    unfold vCall at h
    split at h
    · cases m with
      | raw =>
        obtain ⟨h1, h2⟩ := hk _ _ _ r.1 r.2 h
        exact ⟨h1, fun i hi _ hn => h2 i hi hn⟩
      | see =>
        simp only at h
        obtain ⟨g', hc, h3, hkp⟩ := seeR_inv h
        obtain ⟨h1, h2⟩ := hk _ _ _ r.1 g' hc
        rw [h3]
        exact ⟨h1, fun i hi _ hn => h2 i hi hn⟩
      | pure =>
        simp only at h
        split at h
        · cases h
        · split at h
          · cases h
          · split at h
            · cases h
            · split at h <;> first | (cases h; exact keep_refl _ _) | cases h
      | lock =>
        simp only at h
        split at h
        · cases h
        · split at h
          · cases h
          · split at h
            · cases h
            · cases h
              exact ⟨Nat.le_refl _, fun i _ _ hn => lock_none hn⟩
      | thaw =>
        simp only at h
        split at h
        · cases h
        · split at h
          · split at h
            · split at h
              · split at h <;> first | (cases h; exact keep_upd _ _ _) | cases h
              · cases h
            · cases h
          · cases h
      | melt =>
        simp only at h
        split at h
        · cases h
        · split at h
          · split at h
            · split at h
              · split at h <;> first | (cases h; exact keep_upd _ _ _) | cases h
              · cases h
            · cases h
          · cases h
    · cases h
end Go.Ab
end
section
set_option linter.unusedVariables false
set_option linter.unusedSimpArgs false
namespace Go.Ab
open Go.RowKit
def dstB (N : Nat) : Option Nat → Bool
  | none => true
  | some d => decide (d < N)
def grdB (N : Nat) (ops : Array Oper) : Option (Nat × Bool) → Option (Nat × Bool) → Bool
  | none, none => true
  | some (j, w), some (t, w') => ((ops[j]?).bind (·.dst) == some t) && (w == w') && decide (t < N)
  | _, _ => false
def operB (P : Program) (nm : Nat → Nat) (N : Nat) (ops : Array Oper) (o : Oper) (ao : AOper) : Bool :=
  opB P nm o.op ao.op && (ao.dst == o.dst) && dstB N o.dst && grdB N ops o.guard ao.grd
def opersB (P : Program) (nm : Nat → Nat) (N : Nat) (ops : Array Oper) : List Oper → List AOper → Bool
  | [], [] => true
  | o :: os, ao :: aos => operB P nm N ops o ao && opersB P nm N ops os aos
  | _, _ => false
structure St (N : Nat) (c : Cx) (e : Env) (g : G) (a : Act) : Prop where
  env : EnvOk c e a
  ok : Ok c g.nx
  hp : c.hp = g.hp
  size : N ≤ a.tmps.size
  defers : a.defers = []
theorem put_size (a : Act) (d : Option Nat) (v : Value) : (a.put d v).tmps.size = a.tmps.size := by cases d <;> simp [Act.put]
theorem put_defers' (a : Act) (d : Option Nat) (v : Value) : (a.put d v).defers = a.defers := by cases d <;> rfl
theorem EnvOk.put {c : Cx} {e : Env} {a : Act} (h : EnvOk c e a) {d : Option Nat} {x : AV} {v : Value} (hd : dstB a.tmps.size d = true) (hr : Rep c true x v) : EnvOk c (Ab.put e d x) (a.put d v) := by
  intro t
  cases d with
  | none => exact h t
  | some d =>
    simp only [dstB, decide_eq_true_eq] at hd
    simp only [Ab.put, upd, Act.put]
    by_cases ht : t = d
    · subst ht
      rw [if_pos rfl]
      simpa [Array.getD_eq_getD_getElem?, Array.getElem?_setIfInBounds_self_of_lt hd] using hr
    · rw [if_neg ht]
      have := h t
      simp only [Array.getD_eq_getD_getElem?] at this ⊢
      rwa [Array.getElem?_setIfInBounds_ne (fun h => ht h.symm)]
theorem dstB_le {N M : Nat} (h : N ≤ M) {d : Option Nat} (hd : dstB N d = true) : dstB M d = true := by
  cases d with
  | none => rfl
  | some d => simp only [dstB, decide_eq_true_eq] at hd ⊢; omega
theorem St.step {N : Nat} {c c' : Cx} {e : Env} {g g' : G} {a : Act} (S : St N c e g a) (E : Evo c c') (K : Ok c' g'.nx) (hh : c'.hp = g'.hp) {d : Option Nat} {x : AV} {v : Value} (hd : dstB N d = true) (hr : Rep c' true x v) : St N c' (Ab.put e d x) g' (a.put d v) :=
  ⟨(S.env.evo E).put (dstB_le S.size hd) hr, K, hh, by rw [put_size]; exact S.size, by rw [put_defers']; exact S.defers⟩
theorem wanted_eq {N : Nat} {c : Cx} {e : Env} {g : G} {a : Act} (S : St N c e g a) {ops : Array Oper} {o : Oper} {grd : Option (Nat × Bool)} (h : grdB N ops o.guard grd = true) : wanted e grd = Region.wanted o (yielded ops a.tmps) := by
  unfold grdB at h
  unfold Region.wanted
  split at h
  · rename_i h1
    rw [h1]
    rfl
  · rename_i j w t w' h1
    rw [h1]
    simp only [Bool.and_eq_true, beq_iff_eq, decide_eq_true_eq] at h
    obtain ⟨⟨h2, rfl⟩, h3⟩ := h
    simp only [yielded, h2, Option.bind_some]
    have hr := S.env t
    have hlt : t < a.tmps.size := Nat.lt_of_lt_of_le h3 S.size
    rw [Array.getD_eq_getD_getElem?, Array.getElem?_eq_getElem hlt] at hr
    simp only [Option.getD_some] at hr
    rw [Array.getElem?_eq_getElem hlt]
    generalize a.tmps[t] = v at hr
    cases he : e t with
    | b x =>
      rw [he] at hr
      cases hr
      simp [wanted, he]
    | _ =>
      simp only [wanted, he]
      rw [he] at hr
      cases hr <;> first | (simp; done) | (rename_i hb; exact absurd rfl (hb _)) | (rename_i hb; simp [hb])
  · cases h
noncomputable def opStep (call : CS) (draw : Bool) (base j : Nat) (o : AOper) (e : Env) (g : G) : Option (Env × G) :=
  if wanted e o.grd then
    match opE call (allow draw base o.pre) base (base + j) o.op e g with
    | some (v, g') => some (put e o.dst v, g')
    | none => none
  else some (put e o.dst .undef, g)
theorem regE_step (call : CS) (draw : Bool) (base j : Nat) (o : AOper) (os : List AOper) (e : Env) (g : G) : regE call draw base j (o :: os) e g = (match opStep call draw base j o e g with | some (e', g') => regE call draw base (j + 1) os e' g' | none => none) := by
  simp only [regE, opStep]
  by_cases h : wanted e o.grd = true
  · rw [if_pos h, if_pos h]
    cases opE call (allow draw base o.pre) base (base + j) o.op e g with
    | none => rfl
    | some r => rfl
  · rw [if_neg h, if_neg h]
section
variable {P : Program} {call : CS} {N : Nat}
theorem opStep_wp {c : Cx} {e e' : Env} {g g' : G} {a : Act} (hcall : CallOk P c.num call) (S : St N c e g a) {ops : Array Oper} {j : Nat} {o : Oper} {ao : AOper} (hj : ops[j]? = some o) (ho : operB P c.num N ops o ao = true) {draw : Bool} {base : Nat}
    (hfree : g.hp (base + j) = none) (hlt : base + j < g.nx) (h : opStep call draw base j ao e g = some (e', g')) {K : Act → World → Prop} {Q : Exit → Act → World → Prop} (hK : ∀ c' a', Evo c c' → St N c' e' g' a' → K a' c'.w) : wpOp P ops Q j K a c.w := by
  simp only [operB, Bool.and_eq_true, beq_iff_eq] at ho
  obtain ⟨⟨⟨h1, h2⟩, h3⟩, h4⟩ := ho
  have hw := wanted_eq S h4
  unfold wpOp
  rw [hj]
  simp only
  unfold opStep at h
  by_cases hwt : wanted e ao.grd = true
  · rw [if_pos hwt] at h
    rw [← hw, if_pos hwt]
    split at h
    · rename_i v g1 hop
      cases h
      refine .inl (op_sim hcall S.env S.ok S.hp (by rw [S.hp]; exact hfree) hlt h1 hop K Q (fun c' val E Kk hh hr => ?_))
      have hd : dstB N ao.dst = true := by rw [h2]; exact h3
      have := hK c' _ E (S.step E Kk hh hd hr)
      rwa [h2] at this
    · cases h
  · rw [if_neg hwt] at h
    cases h
    have hwf : wanted e ao.grd = false := by simpa using hwt
    rw [← hw, hwf]
    simp only [Bool.false_eq_true, if_false]
    have hd : dstB N ao.dst = true := by rw [h2]; exact h3
    have := hK c _ (Evo.refl c) (S.step (Evo.refl c) S.ok S.hp hd Rep.undef0)
    rwa [h2] at this
theorem opStep_keep (hk : CallKeep call) {draw : Bool} {base j : Nat} {o : AOper} {e e' : Env} {g g' : G} (h : opStep call draw base j o e g = some (e', g')) : Keep g g' (base + j) := by
  unfold opStep at h
  split at h
  · split at h
    · rename_i hop
      cases h
      exact opE_keep hk hop
    · cases h
  · cases h
    exact keep_refl _ _
theorem reg_wp {num : Nat → Nat} (hcall : CallOk P num call) (hk : CallKeep call) {ops : Array Oper} {Q : Exit → Act → World → Prop} {draw : Bool} {base n : Nat} {e' : Env} {g' : G} : ∀ (os : List Oper) (aos : List AOper) (j : Nat) {c : Cx} {e : Env} {g : G} {a : Act}, c.num = num → (∀ i o, os[i]? = some o → ops[j + i]? = some o) → opersB P num N ops os aos = true → j + os.length = n →
    St N c e g a → base + n ≤ g.nx → (∀ i, j ≤ i → i < n → g.hp (base + i) = none) → regE call draw base j aos e g = some (e', g') → (∀ c' a', Evo c c' → St N c' e' g' a' → Q .normal a' c'.w) → wpOps P ops Q (List.range' j os.length) a c.w
  | [], [], j, c, e, g, a, _, _, _, _, S, _, _, h, hQ => by
    simp only [regE] at h
    cases h
    exact hQ c a (Evo.refl c) S
  | [], _ :: _, _, _, _, _, _, _, _, h, _, _, _, _, _, _ => by simp [opersB] at h
  | _ :: _, [], _, _, _, _, _, _, _, h, _, _, _, _, _, _ => by simp [opersB] at h
  | o :: os, ao :: aos, j, c, e, g, a, hnum, hops, hb, hn, S, hnx, hfree, h, hQ => by
    simp only [opersB, Bool.and_eq_true] at hb
    rw [regE_step] at h
    simp only [List.length_cons] at hn
    rw [List.length_cons, List.range'_succ, wpOps_cons]
    split at h
    · rename_i e1 g1 hst
      have hkp := opStep_keep hk hst
      refine opStep_wp (hnum ▸ hcall) S (by simpa using hops 0 o rfl) (hnum ▸ hb.1) (hfree j (Nat.le_refl _) (by omega)) (by omega) hst (fun c1 a1 E1 S1 => ?_)
      exact reg_wp hcall hk os aos (j + 1) (E1.num.trans hnum) (fun i o' hi => by have := hops (i + 1) o' (by simpa using hi); rwa [show j + (i + 1) = j + 1 + i by omega] at this) hb.2 (by omega) S1 (Nat.le_trans hnx hkp.1)
        (fun i h1 h2 => hkp.2 _ (by omega) (by omega) (hfree i (by omega) h2)) h (fun c' a' E' S' => hQ c' a' (E1.trans E') S')
    · cases h
end
end Go.Ab
end
section
set_option linter.unusedVariables false
set_option linter.unusedSimpArgs false
namespace Go.Ab
def Opd.names : Opd → List Nat
  | .t n => [n]
  | .c _ => []
def onames : Option Opd → List Nat
  | some x => x.names
  | none => []
def pnames (ps : List (Nat × Nat × Opd)) : List Nat := ps.flatMap fun p => p.2.2.names
def AOp.names : AOp → List Nat
  | .mv x | .box x | .boxI x | .ld _ x | .ldF _ x | .nilck x | .eqs _ x | .clr _ _ x | .un _ x | .conv _ x | .fa _ x | .fld _ _ x | .ext _ x | .len x | .slen x => x.names
  | .pick x y z | .mput x y z => x.names ++ y.names ++ z.names
  | .new _ | .mkmap => []
  | .build _ ps | .bsl _ _ _ ps => pnames ps
  | .st _ x y | .stL _ x y | .stW _ x y | .bin _ x y | .eqb _ x y | .eqn _ x y | .eqa _ _ x y | .mget x y | .mksl _ _ _ x y | .ia _ x y | .iaa _ _ x y | .idx _ _ _ x y | .sidx x y | .mx x y | .mn x y | .app _ _ x y | .appM _ _ x y | .cutM _ x y => x.names ++ y.names
  | .bad => []
  | .ldQ _ x t => x.names ++ [t]
  | .stN _ x y ts => x.names ++ y.names ++ ts
  | .mkfn _ a b => a.flatMap (·.names) ++ b.flatMap (·.names)
  | .slice _ x l h m => x.names ++ onames l ++ onames h ++ onames m
  | .sslice x l h => x.names ++ onames l ++ onames h
  | .call _ f asx => f.names ++ asx.flatMap (·.names)
theorem ev_congr {e e' : Env} {x : Opd} (h : ∀ t ∈ x.names, e' t = e t) : x.ev e' = x.ev e := by
  cases x with
  | t n => exact h n (by simp [Opd.names])
  | c v => rfl
theorem evo_congr {e e' : Env} {x : Option Opd} (h : ∀ t ∈ onames x, e' t = e t) : evo e' x = evo e x := by
  cases x with
  | none => rfl
  | some x => exact congrArg some (ev_congr h)
theorem evl_congr {e e' : Env} : ∀ {xs : List Opd}, (∀ t ∈ xs.flatMap (·.names), e' t = e t) → xs.map (·.ev e') = xs.map (·.ev e)
  | [], _ => rfl
  | x :: xs, h => by
    rw [List.map_cons, List.map_cons, ev_congr (fun t ht => h t (by simp [ht])), evl_congr (xs := xs) (fun t ht => h t (by rw [List.flatMap_cons]; exact List.mem_append_right _ ht))]
theorem fill_congr {e e' : Env} : ∀ {ps : List (Nat × Nat × Opd)} {cs : List AV}, (∀ t ∈ pnames ps, e' t = e t) → fill e' cs ps = fill e cs ps
  | [], _, _ => rfl
  | (off, n, x) :: ps, cs, h => by
    have hx : x.ev e' = x.ev e := ev_congr (fun t ht => h t (by simp [pnames, ht]))
    simp only [fill, hx]
    split
    · exact fill_congr (ps := ps) (fun t ht => h t (by
        unfold pnames at ht ⊢
        rw [List.flatMap_cons]
        exact List.mem_append_right _ ht))
    · rfl
theorem opE_congr {call : CS} {al : Nat → Bool} {lo id : Nat} {op : AOp} {e e' : Env} (h : ∀ t ∈ op.names, e' t = e t) (g : G) : opE call al lo id op e' g = opE call al lo id op e g := by
  have l1 : ∀ {x : Opd} {ns : List Nat}, (∀ t ∈ x.names ++ ns, e' t = e t) → x.ev e' = x.ev e := fun h => ev_congr fun t ht => h t (List.mem_append_left _ ht)
  cases op <;> simp only [AOp.names] at h <;> simp only [opE]
  case mv => rw [ev_congr h]
  case pick => rw [ev_congr fun t ht => h t (by simp [ht]), ev_congr fun t ht => h t (by simp [ht]), ev_congr fun t ht => h t (by simp [ht])]
  case box => rw [ev_congr h]
  case boxI => rw [ev_congr h]
  case build => rw [fill_congr h]
  case bsl => rw [fill_congr h]
  case ld => rw [ev_congr h]
  case ldF => rw [ev_congr h]
  case ldQ => rw [ev_congr fun t ht => h t (by simp [ht]), h _ (by simp)]
  case stN =>
    rename_i n a x ts
    have hts : ts.map e' = ts.map e := List.map_congr_left fun t ht => h t (by simp [ht])
    rw [ev_congr fun t ht => h t (by simp [ht]), ev_congr fun t ht => h t (by simp [ht]), hts]
  case stW => rw [ev_congr fun t ht => h t (by simp [ht]), ev_congr fun t ht => h t (by simp [ht])]
  case st => rw [ev_congr fun t ht => h t (by simp [ht]), ev_congr fun t ht => h t (by simp [ht])]
  case stL => rw [ev_congr fun t ht => h t (by simp [ht]), ev_congr fun t ht => h t (by simp [ht])]
  case nilck => rw [ev_congr h]
  case bin => rw [ev_congr fun t ht => h t (by simp [ht]), ev_congr fun t ht => h t (by simp [ht])]
  case eqb => rw [ev_congr fun t ht => h t (by simp [ht]), ev_congr fun t ht => h t (by simp [ht])]
  case eqn => rw [ev_congr fun t ht => h t (by simp [ht]), ev_congr fun t ht => h t (by simp [ht])]
  case eqs => rw [ev_congr h]
  case clr => rw [ev_congr h]
  case eqa => rw [ev_congr fun t ht => h t (by simp [ht]), ev_congr fun t ht => h t (by simp [ht])]
  case un => rw [ev_congr h]
  case conv => rw [ev_congr h]
  case mkfn => rw [evl_congr fun t ht => h t (List.mem_append_left _ ht), evl_congr fun t ht => h t (List.mem_append_right _ ht)]
  case mput => rw [ev_congr fun t ht => h t (by simp [ht]), ev_congr fun t ht => h t (by simp [ht]), ev_congr fun t ht => h t (by simp [ht])]
  case mget => rw [ev_congr fun t ht => h t (by simp [ht]), ev_congr fun t ht => h t (by simp [ht])]
  case mksl => rw [ev_congr fun t ht => h t (by simp [ht]), ev_congr fun t ht => h t (by simp [ht])]
  case slice => rw [ev_congr fun t ht => h t (by simp [ht]), evo_congr fun t ht => h t (by simp [ht]), evo_congr fun t ht => h t (by simp [ht]), evo_congr fun t ht => h t (by simp [ht])]
  case sslice => rw [ev_congr fun t ht => h t (by simp [ht]), evo_congr fun t ht => h t (by simp [ht]), evo_congr fun t ht => h t (by simp [ht])]
  case fa => rw [ev_congr h]
  case fld => rw [ev_congr h]
  case ia => rw [ev_congr fun t ht => h t (by simp [ht]), ev_congr fun t ht => h t (by simp [ht])]
  case iaa => rw [ev_congr fun t ht => h t (by simp [ht]), ev_congr fun t ht => h t (by simp [ht])]
  case idx => rw [ev_congr fun t ht => h t (by simp [ht]), ev_congr fun t ht => h t (by simp [ht])]
  case sidx => rw [ev_congr fun t ht => h t (by simp [ht]), ev_congr fun t ht => h t (by simp [ht])]
  case ext => rw [ev_congr h]
  case len => rw [ev_congr h]
  case slen => rw [ev_congr h]
  case mx => rw [ev_congr fun t ht => h t (by simp [ht]), ev_congr fun t ht => h t (by simp [ht])]
  case mn => rw [ev_congr fun t ht => h t (by simp [ht]), ev_congr fun t ht => h t (by simp [ht])]
  case app => rw [ev_congr fun t ht => h t (by simp [ht]), ev_congr fun t ht => h t (by simp [ht])]
  case appM => rw [ev_congr fun t ht => h t (by simp [ht]), ev_congr fun t ht => h t (by simp [ht])]
  case cutM => rw [ev_congr fun t ht => h t (by simp [ht]), ev_congr fun t ht => h t (by simp [ht])]
  case call => rw [l1 h, evl_congr fun t ht => h t (List.mem_append_right _ ht)]
inductive Cls where
  | p | r | a | t | s | x
  deriving DecidableEq
def cls : AOp → Cls
  | .ld _ _ | .mget _ _ | .call .pure _ _ => .r
  | .new _ | .box _ | .bsl false _ _ _ | .mkmap | .mksl _ _ _ _ _ | .call .thaw _ _ | .call .melt _ _ => .a
  | .app _ _ _ _ => .t
  | .stL _ _ _ => .s
  | .st _ _ _ | .mput _ _ _ | .call .raw _ _ | .call .see _ _ | .call .lock _ _ | .appM _ _ _ _ | .cutM _ _ _ | .clr _ _ _ | .bad | .ldF _ _ | .stW _ _ _ | .ldQ _ _ _ | .stN _ _ _ _ => .x
  | _ => .p
def CM : Option Blk → Prop
  | some (.cells _ _) | some (.map _) => True
  | _ => False
def isT : Option Blk → Prop
  | some (.tok true) => True
  | _ => False
def Rd (c : Cls) (al : Nat → Bool) (lo : Nat) (g : G) (i : Nat) : Prop := match c with
  | .p => False
  | .r | .a => al i = true ∧ CM (g.hp i)
  | .t => al i = true ∧ (CM (g.hp i) ∨ isT (g.hp i))
  | .s => lo ≤ i ∧ al i = true ∧ CM (g.hp i)
  | .x => True
def Wr (c : Cls) (al : Nat → Bool) (lo id : Nat) (g : G) (i : Nat) : Prop := match c with
  | .p | .r => False
  | .a => i = id
  | .t => i = id ∨ (al i = true ∧ isT (g.hp i))
  | .s => lo ≤ i ∧ al i = true ∧ CM (g.hp i)
  | .x => True
open Classical in
structure Foot (call : CS) (al : Nat → Bool) (lo id : Nat) (op : AOp) (e : Env) (g : G) (v : AV) (g1 : G) : Prop where
  nx : g1.nx = g.nx
  kind : ∀ i, i ≠ id → CM (g1.hp i) → CM (g.hp i)
  foot : ∃ W : Nat → Prop, (∀ i, W i → Wr (cls op) al lo id g i) ∧ (∀ i, ¬ W i → g1.hp i = g.hp i) ∧
    ∀ g' : G, (∀ i, Rd (cls op) al lo g i → g'.hp i = g.hp i) → opE call al lo id op e g' = some (v, ⟨fun i => if W i then g1.hp i else g'.hp i, g'.nx⟩)
theorem foot_none {call : CS} {al : Nat → Bool} {lo id : Nat} {op : AOp} {e : Env} {g : G} {v : AV} (h : ∀ g' : G, (∀ i, Rd (cls op) al lo g i → g'.hp i = g.hp i) → opE call al lo id op e g' = some (v, g')) : Foot call al lo id op e g v g :=
  ⟨rfl, fun _ _ h => h, fun _ => False, fun _ h => h.elim, fun _ _ => rfl, fun g' hg' => by
    rw [h g' hg']
    congr 2
    simp⟩
theorem foot_new {call : CS} {al : Nat → Bool} {lo id : Nat} {op : AOp} {e : Env} {g : G} {v : AV} {b : Blk} (hw : Wr (cls op) al lo id g id) (h : ∀ g' : G, (∀ i, Rd (cls op) al lo g i → g'.hp i = g.hp i) → opE call al lo id op e g' = some (v, ⟨upd g'.hp id (some b), g'.nx⟩)) : Foot call al lo id op e g v ⟨upd g.hp id (some b), g.nx⟩ :=
  ⟨rfl, fun i hi h => by
    have h : CM (upd g.hp id (some b) i) := h
    rwa [upd, if_neg hi] at h, fun i => i = id, fun i hi => by subst hi; exact hw, fun i hi => by show upd _ _ _ _ = _; rw [upd, if_neg hi], fun g' hg' => by
    rw [h g' hg']
    congr 3
    funext i
    by_cases hi : i = id
    · subst hi; simp [upd]
    · simp [upd, hi]⟩
mutual
theorem frz_agree {hp hp' : Nat → Option Blk} (h : ∀ i, CM (hp i) → hp' i = hp i) : ∀ (k : Nat) {x y : AV}, frz hp k x = some y → frz hp' k x = some y ∧ vis hp' k x = vis hp k x
  | 0, _, _, hf => by simp [frz] at hf
  | k + 1, x, y, hf => by
    cases x with
    | agg cs =>
      simp only [frz] at hf
      cases hc : frzL hp k cs with
      | none => rw [hc] at hf; cases hf
      | some ds => rw [hc] at hf; obtain ⟨h1, h2⟩ := frzL_agree h k hc; exact ⟨by simp only [frz, h1]; exact hf, by simp only [vis, h2]⟩
    | tup cs =>
      simp only [frz] at hf
      cases hc : frzL hp k cs with
      | none => rw [hc] at hf; cases hf
      | some ds => rw [hc] at hf; obtain ⟨h1, h2⟩ := frzL_agree h k hc; exact ⟨by simp only [frz, h1]; exact hf, by simp only [vis, h2]⟩
    | fn f asx bs =>
      simp only [frz] at hf
      cases hc : frzL hp k asx with
      | none => rw [hc] at hf; cases hf
      | some ds =>
        cases hd : frzL hp k bs with
        | none => rw [hc, hd] at hf; cases hf
        | some es =>
          rw [hc, hd] at hf
          obtain ⟨h1, h2⟩ := frzL_agree h k hc
          obtain ⟨h3, h4⟩ := frzL_agree h k hd
          exact ⟨by simp only [frz, h1, h3]; exact hf, by simp only [vis, h2, h4]⟩
    | ifc t v =>
      simp only [frz] at hf
      cases hc : frz hp k v with
      | none => rw [hc] at hf; cases hf
      | some ds => rw [hc] at hf; obtain ⟨h1, h2⟩ := frz_agree h k hc; exact ⟨by simp only [frz, h1]; exact hf, by simp only [vis, h2]⟩
    | mp id off =>
      simp only [frz] at hf
      split at hf
      · rename_i cs ro hb
        have hb' : hp' id = some (.cells cs ro) := by rw [h id (by rw [hb]; trivial), hb]
        cases hc : frzL hp k (cs.drop off) with
        | none => rw [hc] at hf; cases hf
        | some ds =>
          rw [hc] at hf
          obtain ⟨h1, h2⟩ := frzL_agree h k hc
          exact ⟨by simp only [frz, hb', h1]; exact hf, by simp only [vis, hb', hb, h2]⟩
      · cases hf
    | ms id off n =>
      simp only [frz] at hf
      split at hf
      · rename_i cs ro hb
        have hb' : hp' id = some (.cells cs ro) := by rw [h id (by rw [hb]; trivial), hb]
        cases hc : frzL hp k (cs.drop off) with
        | none => rw [hc] at hf; cases hf
        | some ds =>
          rw [hc] at hf
          obtain ⟨h1, h2⟩ := frzL_agree h k hc
          exact ⟨by simp only [frz, hb', h1]; exact hf, by simp only [vis, hb', hb, h2]⟩
      · cases hf
    | mm id => simp [frz] at hf
    | mc id k e n => simp [frz] at hf
    | undef => exact ⟨by simpa only [frz] using hf, by simp only [vis]⟩
    | b x => exact ⟨by simpa only [frz] using hf, by simp only [vis]⟩
    | i k n => exact ⟨by simpa only [frz] using hf, by simp only [vis]⟩
    | s x => exact ⟨by simpa only [frz] using hf, by simp only [vis]⟩
    | nilp => exact ⟨by simpa only [frz] using hf, by simp only [vis]⟩
    | nilf => exact ⟨by simpa only [frz] using hf, by simp only [vis]⟩
    | nili => exact ⟨by simpa only [frz] using hf, by simp only [vis]⟩
    | sl cs n t => exact ⟨by simpa only [frz] using hf, by simp only [vis]⟩
    | ptr cs => exact ⟨by simpa only [frz] using hf, by simp only [vis]⟩
theorem frzL_agree {hp hp' : Nat → Option Blk} (h : ∀ i, CM (hp i) → hp' i = hp i) : ∀ (k : Nat) {cs ds : List AV}, frzL hp k cs = some ds → frzL hp' k cs = some ds ∧ cs.flatMap (vis hp' k) = cs.flatMap (vis hp k)
  | k, [], ds, hf => ⟨by simpa only [frzL] using hf, rfl⟩
  | k, x :: cs, ds, hf => by
    simp only [frzL] at hf
    split at hf
    · rename_i hx hs
      obtain ⟨h1, h2⟩ := frz_agree h k hx
      obtain ⟨h3, h4⟩ := frzL_agree h k hs
      refine ⟨by simp only [frzL, h1, h3]; exact hf, ?_⟩
      rw [List.flatMap_cons, List.flatMap_cons, h2, h4]
    · cases hf
end
theorem rd_agree {al : Nat → Bool} {g g' : G} (h : ∀ i, (al i = true ∧ CM (g.hp i)) → g'.hp i = g.hp i) : ∀ i, CM (rd g al i) → rd g' al i = rd g al i := by
  intro i hi
  unfold rd at hi ⊢
  split at hi
  · rename_i ha
    rw [if_pos ha, if_pos ha]
    exact h i ⟨ha, hi⟩
  · cases hi
theorem rd_cells {al : Nat → Bool} {g g' : G} (h : ∀ i, (al i = true ∧ CM (g.hp i)) → g'.hp i = g.hp i) {i : Nat} {b : Blk} (hb : rd g al i = some b) (hc : CM (some b)) : rd g' al i = some b := by
  rw [rd_agree h i (by rw [hb]; exact hc), hb]
def Any (f : G → Option (AV × G)) : Prop := ∀ g v g1, f g = some (v, g1) → g1 = g ∧ ∀ g', f g' = some (v, g')
theorem any_pick (c a b : AV) : Any (vPick c a b) := by
  intro g v g1 h; cases c <;> simp only [vPick] at h <;> first | (cases h; done) | (cases h; exact ⟨rfl, fun _ => rfl⟩)
theorem any_map (o : Option AV) : Any fun g => vMap g o := by
  intro g v g1 h; cases o <;> simp only [vMap] at h <;> first | (cases h; done) | (cases h; exact ⟨rfl, fun _ => rfl⟩)
theorem any_mapL (f) (o : Option (List AV)) : Any fun g => vMapL f g o := by
  intro g v g1 h; cases o <;> simp only [vMapL] at h <;> first | (cases h; done) | (cases h; exact ⟨rfl, fun _ => rfl⟩)
theorem any_some (x : AV) : Any fun g => some (x, g) := by intro g v g1 h; cases h; exact ⟨rfl, fun _ => rfl⟩
theorem any_none : Any fun _ => none := by intro g v g1 h; cases h
theorem any_ite (c : Prop) [Decidable c] {f k : G → Option (AV × G)} (h1 : Any f) (h2 : Any k) : Any fun g => if c then f g else k g := by
  by_cases h : c
  · simpa only [if_pos h] using h1
  · simpa only [if_neg h] using h2
theorem any_boxI (x : AV) : Any (vBoxI x) := by unfold vBoxI; exact any_ite _ (any_mapL _ _) any_none
theorem any_bslI (id n : Nat) (o : Option (List AV)) : Any (vBsl id true n o) := by
  cases o with
  | none => exact any_none
  | some cs => exact any_mapL _ _
theorem any_nil (x : AV) : Any (vNil x) := by cases x <;> first | exact any_none | exact any_some _
theorem any_conv (k : IntKind) (x : AV) : Any (vConv k x) := by cases x <;> first | exact any_none | exact any_some _
theorem any_slice (esz : Nat) (x : AV) (l h m : Option AV) : Any (vSlice esz x l h m) := by
  cases x <;> first | exact any_none | skip
  · rename_i cs n t
    show Any fun g => vSlice esz (.sl cs n t) l h m g
    simp only [vSlice]
    split <;> first | exact any_none | exact any_ite _ (any_some _) any_none
  · rename_i id off n
    show Any fun g => vSlice esz (.ms id off n) l h m g
    simp only [vSlice]
    split <;> first | exact any_none | exact any_ite _ (any_some _) any_none
theorem any_sslice (x : AV) (l h : Option AV) : Any (vSslice x l h) := by
  cases x <;> first | exact any_none | skip
  rename_i s
  show Any fun g => vSslice (.s s) l h g
  simp only [vSslice]
  split <;> first | exact any_none | exact any_ite _ (any_some _) any_none
theorem any_fa (off : Nat) (x : AV) : Any (vFa off x) := by cases x <;> first | exact any_none | exact any_some _ | exact any_ite _ (any_some _) any_none
theorem any_fld (off : Nat) (agg) (x : AV) : Any (vFld off agg x) := by cases x <;> first | exact any_none | exact any_map _
theorem any_ia (esz : Nat) (x i : AV) : Any (vIa esz x i) := by
  cases x <;> cases i <;> first | exact any_none | exact any_ite _ (any_some _) any_none
theorem any_iaa (len esz : Nat) (x i : AV) : Any (vIaa len esz x i) := by
  cases x <;> cases i <;> first | exact any_none | exact any_ite _ (any_some _) any_none
theorem any_idx (len esz : Nat) (agg) (x i : AV) : Any (vIdx len esz agg x i) := by
  cases x <;> cases i <;> first | exact any_none | exact any_ite _ (any_map _) any_none
theorem any_sidx (x i : AV) : Any (vSidx x i) := by
  cases x <;> cases i <;> first | exact any_none | skip
  rename_i s k z
  show Any fun g => vSidx (.s s) (.i k z) g
  simp only [vSidx]
  split <;> first | exact any_none | exact any_some _
theorem any_ext (i : Nat) (x : AV) : Any (vExt i x) := by cases x <;> first | exact any_none | exact any_map _
theorem any_len (x : AV) : Any (vLen x) := by cases x <;> first | exact any_none | exact any_some _
theorem any_slen (x : AV) : Any (vSlen x) := by cases x <;> first | exact any_none | exact any_some _
theorem any_mx (x y : AV) : Any (vMx x y) := by cases x <;> cases y <;> first | exact any_none | exact any_some _
theorem any_mn (x y : AV) : Any (vMn x y) := by cases x <;> cases y <;> first | exact any_none | exact any_some _
section
variable {call : CS} {al : Nat → Bool} {lo id : Nat} {e : Env} {g : G} {v : AV} {g1 : G}
theorem any_p {op : AOp} (hc : cls op = .p) : Any (opE call al lo id op e) := by
  cases op
  case mv => exact any_some _
  case pick => exact any_pick _ _ _
  case boxI => exact any_boxI _
  case build => exact any_mapL _ _
  case bsl imm n z ps =>
    cases imm with
    | false => cases hc
    | true => exact any_bslI _ _ _
  case nilck => exact any_nil _
  case bin => exact any_map _
  case eqb => exact any_map _
  case eqn => exact any_map _
  case eqs => exact any_map _
  case eqa => exact any_map _
  case un => exact any_map _
  case conv => exact any_conv _ _
  case mkfn => exact any_some _
  case slice => exact any_slice _ _ _ _ _
  case sslice => exact any_sslice _ _ _
  case fa => exact any_fa _ _
  case fld => exact any_fld _ _ _
  case ia => exact any_ia _ _ _
  case iaa => exact any_iaa _ _ _ _
  case idx => exact any_idx _ _ _ _ _
  case sidx => exact any_sidx _ _
  case ext => exact any_ext _ _
  case len => exact any_len _
  case slen => exact any_slen _
  case mx => exact any_mx _ _
  case mn => exact any_mn _ _
  case call m f asx => cases m <;> cases hc
  all_goals cases hc
theorem foot_p {op : AOp} (hc : cls op = .p) (h : opE call al lo id op e g = some (v, g1)) : Foot call al lo id op e g v g1 := by
  obtain ⟨rfl, hk⟩ := any_p hc g v g1 h
  exact foot_none fun g' _ => hk g'
theorem foot_r {op : AOp} (hc : cls op = .r) (h : opE call al lo id op e g = some (v, g1)) : Foot call al lo id op e g v g1 := by
  have key : g1 = g ∧ ∀ g' : G, (∀ i, Rd (cls op) al lo g i → g'.hp i = g.hp i) → opE call al lo id op e g' = some (v, g') := by
    rw [hc]
    cases op
    case ld agg x =>
      simp only [opE] at h ⊢
      unfold vLd at h ⊢
      split at h
      · rename_i cs hx
        obtain ⟨rfl, hk⟩ := any_map _ _ _ _ h
        exact ⟨rfl, fun g' _ => hk g'⟩
      · rename_i b off hx
        split at h
        · rename_i cs ro hb
          obtain ⟨rfl, hk⟩ := any_map _ _ _ _ h
          exact ⟨rfl, fun g' hg' => by simp only [rd_cells hg' hb trivial]; exact hk g'⟩
        · cases h
      · cases h
    case mget m k =>
      simp only [opE] at h ⊢
      unfold vMget at h ⊢
      split at h
      · rename_i b s hx hy
        split at h
        · rename_i es hb
          obtain ⟨rfl, hk⟩ := any_map _ _ _ _ h
          exact ⟨rfl, fun g' hg' => by simp only [rd_cells hg' hb trivial]; exact hk g'⟩
        · cases h
      · cases h
    case call m f asx =>
      cases m with
      | pure =>
        simp only [opE] at h ⊢
        unfold vCall at h ⊢
        split at h
        · rename_i fid fst caps hx
          simp only at h
          split at h
          · cases h
          · rename_i bs hbs
            split at h
            · cases h
            · rename_i v' g' hcr
              split at h
              · cases h
              · rename_i v2 hfz
                split at h
                · rename_i hcond
                  cases h
                  refine ⟨rfl, fun g'' hg' => ?_⟩
                  obtain ⟨h1, h2⟩ := frzL_agree (rd_agree hg') depth hbs
                  simp only [h1, hcr, hfz, h2, hcond, if_true]
                · cases h
        · cases h
      | lock => cases hc
      | thaw => cases hc
      | melt => cases hc
      | raw => cases hc
      | see => cases hc
    case bsl imm n z ps => cases imm <;> cases hc
    all_goals cases hc
  obtain ⟨rfl, hk⟩ := key
  exact foot_none hk
theorem foot_a {op : AOp} (hc : cls op = .a) (h : opE call al lo id op e g = some (v, g1)) : Foot call al lo id op e g v g1 := by
  have hw : Wr (cls op) al lo id g id := by rw [hc]; rfl
  cases op
  case new z =>
    simp only [opE] at h; cases h
    exact foot_new hw fun g' _ => rfl
  case box x =>
    simp only [opE] at h
    unfold vBox at h
    split at h
    · rename_i hh
      cases h
      exact foot_new hw fun g' _ => by simp only [opE, vBox]; rw [if_pos hh]
    · cases h
  case bsl imm n z ps =>
    cases imm with
    | true => cases hc
    | false =>
      simp only [opE] at h
      unfold vBsl at h
      split at h
      · cases h
      · rename_i cs hf
        simp only [Bool.false_eq_true, if_false] at h
        cases h
        exact foot_new hw fun g' _ => by simp only [opE, vBsl, hf, Bool.false_eq_true, if_false]
  case mkmap =>
    simp only [opE] at h; cases h
    exact foot_new hw fun g' _ => rfl
  case mksl z esz b l cp =>
    simp only [opE] at h
    unfold vMksl at h
    split at h
    · rename_i n m hx hy
      split at h
      · rename_i h1
        split at h
        · rename_i h2
          cases h
          exact foot_new hw fun g' _ => by simp only [opE, vMksl, hx, hy]; rw [if_pos h1, if_pos h2]
        · rename_i h2
          split at h
          · rename_i h3
            cases h
            exact foot_new hw fun g' _ => by simp only [opE, vMksl, hx, hy]; rw [if_pos h1, if_neg h2, if_pos h3]
          · cases h
      · cases h
    · cases h
  case call m f asx =>
    cases m with
    | thaw =>
      simp only [opE] at h
      unfold vCall at h
      split at h
      · rename_i fid fst caps hx
        simp only at h
        split at h
        · cases h
        · rename_i bs hbs
          split at h
          · rename_i b g' hcr
            split at h
            · rename_i cs hb
              split at h
              · rename_i cs' hfz
                split at h
                · rename_i hcond
                  cases h
                  refine foot_new hw fun g'' hg' => ?_
                  rw [hc] at hg'
                  obtain ⟨h1, h2⟩ := frzL_agree (rd_agree hg') depth hbs
                  simp only [opE, vCall, hx, h1, hcr, hb, hfz, h2, hcond, if_true]
                · cases h
              · cases h
            · cases h
          · cases h
      · cases h
    | melt =>
      simp only [opE] at h
      unfold vCall at h
      split at h
      · rename_i fid fst caps hx
        simp only at h
        split at h
        · cases h
        · rename_i bs hbs
          split at h
          · rename_i b n g' hcr
            split at h
            · rename_i cs hb
              split at h
              · rename_i cs' hfz
                split at h
                · rename_i hcond
                  cases h
                  refine foot_new hw fun g'' hg' => ?_
                  rw [hc] at hg'
                  obtain ⟨h1, h2⟩ := frzL_agree (rd_agree hg') depth hbs
                  simp only [opE, vCall, hx, h1, hcr, hb, hfz, h2, hcond, if_true]
                · cases h
              · cases h
            · cases h
          · cases h
      · cases h
    | pure => cases hc
    | lock => cases hc
    | raw => cases hc
    | see => cases hc
  all_goals cases hc
theorem vSrc_agree {esz : Nat} {y : AV} {g g' : G} {r : List AV × Nat} (h : ∀ i, (al i = true ∧ CM (g.hp i)) → g'.hp i = g.hp i) (hs : vSrc al esz y g = some r) : vSrc al esz y g' = some r := by
  unfold vSrc at hs ⊢
  cases y <;> simp only at hs ⊢ <;> first | exact hs | (cases hs; done) | skip
  split at hs
  · rename_i hb
    simp only [rd_cells h hb trivial]
    exact hs
  · cases hs
open Classical in
theorem foot_t {op : AOp} (hc : cls op = .t) (h : opE call al lo id op e g = some (v, g1)) : Foot call al lo id op e g v g1 := by
  cases op
  case app esz b x y =>
    simp only [opE] at h
    unfold vApp at h
    split at h
    · rename_i cs n tk hx
      split at h
      · cases h
      · rename_i ds m hsrc
        split at h
        · rename_i hcond
          have hsrc' : ∀ g' : G, (∀ i, Rd (cls (.app esz b x y)) al lo g i → g'.hp i = g.hp i) → vSrc al esz (y.ev e) g' = some (ds, m) := fun g' hg' => vSrc_agree (fun i hi => hg' i ⟨hi.1, .inl hi.2⟩) hsrc
          split at h
          · cases h
          · split at h
            · rename_i hm
              cases h
              exact foot_none fun g' hg' => by simp only [opE, vApp, hx, hsrc' g' hg', if_pos hcond, if_pos hm]
            · rename_i hm
              cases h
              exact foot_new (.inl rfl) fun g' hg' => by simp only [opE, vApp, hx, hsrc' g' hg', if_pos hcond, if_neg hm]
          · rename_i τ e'
            split at h
            · rename_i htk
              split at h
              · rename_i he'
                cases h
                have hal : al τ = true := by
                  unfold rd at htk; split at htk
                  · assumption
                  · cases htk
                have hhp := rd_g htk
                refine ⟨rfl, fun i hi h => ?_, fun i => i = id ∨ i = τ, fun i hi => ?_, fun i hi => ?_, fun g' hg' => ?_⟩
                · have h : CM (upd (upd g.hp τ (some (.tok false))) id (some (.tok true)) i) := h
                  rw [upd, if_neg hi] at h
                  by_cases h2 : i = τ
                  · subst h2; rw [upd, if_pos rfl] at h; exact h.elim
                  · rwa [upd, if_neg h2] at h
                · rcases hi with rfl | rfl
                  · exact .inl rfl
                  · exact .inr ⟨hal, by rw [hhp]; trivial⟩
                · show upd _ _ _ _ = _
                  rw [upd, if_neg (fun h => hi (.inl h)), upd, if_neg (fun h => hi (.inr h))]
                · have hrd : rd g' al τ = some (.tok true) := by
                    unfold rd; rw [if_pos hal, hg' τ ⟨hal, .inr (by rw [hhp]; trivial)⟩, hhp]
                  simp only [opE, vApp, hx, hsrc' g' hg', if_pos hcond, hrd, if_pos he']
                  congr 3
                  funext i
                  by_cases h1 : i = id
                  · subst h1; simp [upd]
                  · by_cases h2 : i = τ
                    · subst h2; simp [upd, h1]
                    · simp [upd, h1, h2]
              · cases h
            · cases h
        · cases h
    · cases h
  case bsl imm n z ps => cases imm <;> cases hc
  case call m f asx => cases m <;> cases hc
  all_goals cases hc
open Classical in
theorem foot_s {op : AOp} (hc : cls op = .s) (h : opE call al lo id op e g = some (v, g1)) : Foot call al lo id op e g v g1 := by
  cases op
  case stL n x y =>
    simp only [opE] at h
    unfold vSt at h
    split at h
    · rename_i b off hx
      split at h
      · rename_i cs hb
        split at h
        · rename_i hcond
          cases h
          have hal : lo ≤ b ∧ al b = true := by
            unfold rd at hb; split at hb
            · rename_i hh; simpa using hh
            · cases hb
          have hhp := rd_g hb
          refine ⟨rfl, fun i hi h => ?_, fun i => i = b, fun i hi => ?_, fun i hi => ?_, fun g' hg' => ?_⟩
          · by_cases h2 : i = b
            · subst h2; rw [hhp]; trivial
            · have h : CM (upd g.hp b _ i) := h
              rwa [upd, if_neg h2] at h
          · subst hi; exact ⟨hal.1, hal.2, by rw [hhp]; trivial⟩
          · show upd _ _ _ _ = _
            rw [upd, if_neg hi]
          · have hrd : rd g' (fun i => decide (lo ≤ i) && al i) b = some (.cells cs false) := by
              unfold rd; rw [if_pos (by simp [hal.1, hal.2]), hg' b ⟨hal.1, hal.2, by rw [hhp]; trivial⟩, hhp]
            simp only [opE, vSt, hx, hrd, if_pos hcond]
            congr 3
            funext i
            by_cases h1 : i = b
            · subst h1; simp [upd]
            · simp [upd, h1]
        · cases h
      · cases h
    · cases h
  case bsl imm n z ps => cases imm <;> cases hc
  case call m f asx => cases m <;> cases hc
  all_goals cases hc
theorem foot_all {op : AOp} (hc : cls op ≠ .x) (h : opE call al lo id op e g = some (v, g1)) : Foot call al lo id op e g v g1 := by
  cases hcl : cls op with
  | p => exact foot_p hcl h
  | r => exact foot_r hcl h
  | a => exact foot_a hcl h
  | t => exact foot_t hcl h
  | s => exact foot_s hcl h
  | x => exact absurd hcl hc
end
end Go.Ab
end
section
set_option linter.unusedVariables false
set_option linter.unusedSimpArgs false
namespace Go.Ab
open Go.RowKit
def gnames : Option (Nat × Bool) → List Nat
  | none => []
  | some (t, _) => [t]
def AOper.looks (o : AOper) : List Nat := gnames o.grd ++ o.op.names
def dnot (d : Option Nat) (l : List Nat) : Bool := match d with
  | none => true
  | some d => !l.contains d
def ddif (d d' : Option Nat) : Bool := match d, d' with
  | some a, some b => a != b
  | _, _ => true
def clsOk0 (k i : Nat) (x y : AOper) : Bool :=
  cls x.op == .p || cls y.op == .p || (cls x.op != .x && cls y.op != .x &&
   (!y.pre.contains k && !x.pre.contains i && (!(cls x.op == .s || cls y.op == .s) || x.pre.all (fun p => !y.pre.contains p)) && !(cls x.op == .t && cls y.op == .t)))
def fOp : AOp → Bool
  | .ldF _ _ => true
  | _ => false
def wOp : AOp → Bool
  | .stW _ _ _ => true
  | _ => false
def fwOk (x y : AOp) : Bool := (fOp x && fOp y) || (fOp x && wOp y) || (wOp x && fOp y)
def qnOk (x y : AOp) : Bool := match x, y with
  | .ldQ _ _ _, .ldQ _ _ _ => true
  | .ldQ _ _ t, .stN _ _ _ ts => ts.contains t
  | .stN _ _ _ ts, .ldQ _ _ t => ts.contains t
  | _, _ => false
def seeOk (x y : AOp) : Bool := match x, y with
  | .ld _ _, .call .see _ _ => true
  | _, _ => false
def clsOk (k i : Nat) (x y : AOper) : Bool := seeOk x.op y.op || (qnOk x.op y.op || (fwOk x.op y.op || clsOk0 k i x y))
def swapB (k i : Nat) (x y : AOper) : Bool :=
  dnot x.dst y.looks && dnot y.dst x.looks && ddif x.dst y.dst && clsOk k i x y
theorem put_not {d : Option Nat} {l : List Nat} (h : dnot d l = true) (e : Env) (v : AV) : ∀ t ∈ l, put e d v t = e t := by
  intro t ht
  cases d with
  | none => rfl
  | some d =>
    simp only [dnot, Bool.not_eq_true', List.contains_eq_mem, decide_eq_false_iff_not] at h
    have : t ≠ d := fun h' => h (h' ▸ ht)
    simp only [put, upd, if_neg this]
theorem put_comm {d d' : Option Nat} (h : ddif d d' = true) (e : Env) (v u : AV) : put (put e d v) d' u = put (put e d' u) d v := by
  cases d with
  | none => cases d' <;> rfl
  | some d =>
    cases d' with
    | none => rfl
    | some d' =>
      simp only [ddif, bne_iff_ne, ne_eq] at h
      funext t
      simp only [put, upd]
      by_cases h1 : t = d'
      · subst h1; rw [if_pos rfl, if_neg (fun h2 => h h2.symm), if_pos rfl]
      · rw [if_neg h1]
        by_cases h2 : t = d
        · rw [if_pos h2, if_pos h2]
        · rw [if_neg h2, if_neg h2, if_neg h1]
theorem wanted_congr {e e' : Env} {grd : Option (Nat × Bool)} (h : ∀ t ∈ gnames grd, e' t = e t) : wanted e' grd = wanted e grd := by
  cases grd with
  | none => rfl
  | some p => obtain ⟨t, w⟩ := p; simp only [wanted]; rw [h t (by simp [gnames])]
noncomputable def stepV (call : CS) (base j : Nat) (o : AOper) (e : Env) (g : G) : Option (AV × G) :=
  if wanted e o.grd then opE call (allow true base o.pre) base (base + j) o.op e g else some (.undef, g)
theorem opStep_V (call : CS) (base j : Nat) (o : AOper) (e : Env) (g : G) : opStep call true base j o e g = (stepV call base j o e g).map fun r => (put e o.dst r.1, r.2) := by
  unfold opStep stepV
  by_cases h : wanted e o.grd = true
  · rw [if_pos h, if_pos h]
    cases opE call (allow true base o.pre) base (base + j) o.op e g with
    | none => rfl
    | some r => rfl
  · rw [if_neg h, if_neg h]; rfl
theorem stepV_congr {call : CS} {base j : Nat} {o : AOper} {e e' : Env} (h : ∀ t ∈ o.looks, e' t = e t) (g : G) : stepV call base j o e' g = stepV call base j o e g := by
  unfold stepV
  rw [wanted_congr fun t ht => h t (List.mem_append_left _ ht), opE_congr fun t ht => h t (List.mem_append_right _ ht)]
theorem allow_slot {base k : Nat} {pre : List Nat} (h : allow true base pre (base + k) = true) : pre.contains k = true := by
  simp only [allow, Bool.not_true, Bool.false_or, Bool.or_eq_true, decide_eq_true_eq] at h
  rcases h with h | h
  · omega
  · simpa using h
theorem allow_ge {base k : Nat} {pre : List Nat} (h : allow true base pre k = true) (hk : base ≤ k) : pre.contains (k - base) = true := by
  simp only [allow, Bool.not_true, Bool.false_or, Bool.or_eq_true, decide_eq_true_eq] at h
  rcases h with h | h
  · omega
  · exact h
theorem Foot.out {call : CS} {al : Nat → Bool} {lo id : Nat} {op : AOp} {e : Env} {g : G} {v : AV} {g1 : G} (F : Foot call al lo id op e g v g1) {i : Nat} (h : ¬ Wr (cls op) al lo id g i) : g1.hp i = g.hp i := by
  obtain ⟨_, _, W, h1, h2, _⟩ := F
  exact h2 i fun hw => h (h1 i hw)
open Classical in
theorem opE_swap0 {call : CS} {base k i : Nat} (hki : k ≠ i) {x y : AOper} (hc : clsOk0 k i x y = true) {e : Env} {g g1 g2 : G} {v u : AV}
    (h1 : opE call (allow true base x.pre) base (base + k) x.op e g = some (v, g1)) (h2 : opE call (allow true base y.pre) base (base + i) y.op e g1 = some (u, g2)) :
    ∃ g1', opE call (allow true base y.pre) base (base + i) y.op e g = some (u, g1') ∧ opE call (allow true base x.pre) base (base + k) x.op e g1' = some (v, g2) := by
  by_cases hx : cls x.op = .p
  · obtain ⟨rfl, hh⟩ := any_p hx _ _ _ h1
    exact ⟨g2, h2, hh g2⟩
  by_cases hy : cls y.op = .p
  · obtain ⟨rfl, hh⟩ := any_p hy _ _ _ h2
    exact ⟨g, hh g, h1⟩
  simp only [clsOk0, Bool.or_eq_true, beq_iff_eq, hx, hy, false_or, Bool.and_eq_true, bne_iff_ne, ne_eq, Bool.not_eq_true'] at hc
  obtain ⟨⟨cx, cy⟩, ⟨⟨pk, pi⟩, ps⟩, ptt⟩ := hc
  have ak : allow true base y.pre (base + k) ≠ true := fun h => by rw [allow_slot h] at pk; cases pk
  have ai : allow true base x.pre (base + i) ≠ true := fun h => by rw [allow_slot h] at pi; cases pi
  have pp : (cls x.op = .s ∨ cls y.op = .s) → ∀ m, base ≤ m → allow true base x.pre m = true → allow true base y.pre m = true → False := by
    intro hs m hm h3 h4
    rcases ps with ps | ps
    · simp only [Bool.or_eq_false_iff, beq_eq_false_iff_ne, ne_eq] at ps
      rcases hs with hs | hs
      · exact ps.1 hs
      · exact ps.2 hs
    · have h3 := allow_ge h3 hm
      have h4 := allow_ge h4 hm
      have := List.all_eq_true.1 ps (m - base) (by simpa using h3)
      rw [h4] at this; cases this
  have tt : ¬ (cls x.op = .t ∧ cls y.op = .t) := by simpa [Bool.and_eq_false_iff] using ptt
  have F := foot_all cx h1
  have F' := foot_all cy h2
  have out1 : ∀ m, ¬ Wr (cls x.op) (allow true base x.pre) base (base + k) g m → g1.hp m = g.hp m := fun m hm => F.out hm
  -- what y looks at, x has not turned
  have A : ∀ m, Rd (cls y.op) (allow true base y.pre) base g1 m → ¬ Wr (cls x.op) (allow true base x.pre) base (base + k) g m := by
    intro m hr hw
    have hal : allow true base y.pre m = true := by
      cases hcy : cls y.op <;> rw [hcy] at hr <;> simp only [Rd] at hr
      · exact hr.1
      · exact hr.1
      · exact hr.1
      · exact hr.2.1
      · exact absurd hcy cy
    have hne : m ≠ base + k := fun h => ak (h ▸ hal)
    cases hcx : cls x.op with
    | p => exact hx hcx
    | r => rw [hcx] at hw; exact hw
    | a => rw [hcx] at hw; exact hne hw
    | t =>
      rw [hcx] at hw
      rcases hw with hw | hw
      · exact hne hw
      · have hcm : CM (g1.hp m) := by
          cases hcy : cls y.op <;> rw [hcy] at hr <;> simp only [Rd] at hr
          · exact hr.2
          · exact hr.2
          · exact absurd ⟨hcx, hcy⟩ tt
          · exact hr.2.2
          · exact absurd hcy cy
        have := F.kind m hne hcm
        have h3 := hw.2
        cases hh : g.hp m with
        | none => rw [hh] at h3; exact h3
        | some b => rw [hh] at h3 this; cases b <;> first | exact h3 | exact this
    | s =>
      rw [hcx] at hw
      exact pp (.inl hcx) m hw.1 hw.2.1 hal
    | x => exact cx hcx
  have B : ∀ m, Wr (cls y.op) (allow true base y.pre) base (base + i) g1 m → ¬ Wr (cls x.op) (allow true base x.pre) base (base + k) g m := by
    intro m hr hw
    have hor : m = base + i ∨ Rd (cls y.op) (allow true base y.pre) base g1 m := by
      cases hcy : cls y.op <;> rw [hcy] at hr <;> simp only [Wr] at hr
      · exact .inl hr
      · rcases hr with hr | hr
        · exact .inl hr
        · exact .inr ⟨hr.1, .inr hr.2⟩
      · exact .inr hr
      · exact absurd hcy cy
    rcases hor with rfl | hr
    · cases hcx : cls x.op with
      | p => exact hx hcx
      | r => rw [hcx] at hw; exact hw
      | a => rw [hcx] at hw; simp only [Wr] at hw; omega
      | t =>
        rw [hcx] at hw
        rcases hw with hw | hw
        · omega
        · exact ai hw.1
      | s => rw [hcx] at hw; exact ai hw.2.1
      | x => exact cx hcx
    · exact A m hr hw
  have C : ∀ m, Rd (cls x.op) (allow true base x.pre) base g m → ¬ Wr (cls y.op) (allow true base y.pre) base (base + i) g1 m := by
    intro m hr hw
    have hal : allow true base x.pre m = true := by
      cases hcx : cls x.op <;> rw [hcx] at hr <;> simp only [Rd] at hr
      · exact hr.1
      · exact hr.1
      · exact hr.1
      · exact hr.2.1
      · exact absurd hcx cx
    have hne : m ≠ base + i := fun h => ai (h ▸ hal)
    have hold : g1.hp m = g.hp m := out1 m (B m hw)
    cases hcy : cls y.op with
    | p => exact hy hcy
    | r => rw [hcy] at hw; exact hw
    | a => rw [hcy] at hw; exact hne hw
    | t =>
      rw [hcy] at hw
      rcases hw with hw | hw
      · exact hne hw
      · have h3 := hw.2
        rw [hold] at h3
        have hcm : CM (g.hp m) := by
          cases hcx : cls x.op <;> rw [hcx] at hr <;> simp only [Rd] at hr
          · exact hr.2
          · exact hr.2
          · exact absurd ⟨hcx, hcy⟩ tt
          · exact hr.2.2
          · exact absurd hcx cx
        cases hh : g.hp m with
        | none => rw [hh] at h3; exact h3
        | some b => rw [hh] at h3 hcm; cases b <;> first | exact h3 | exact hcm
    | s =>
      rw [hcy] at hw
      exact pp (.inr hcy) m hw.1 hal hw.2.1
    | x => exact cy hcy
  obtain ⟨n1, _, W, w1, w2, w3⟩ := F
  obtain ⟨n2, _, W', w1', w2', w3'⟩ := F'
  have hAg : ∀ m, Rd (cls y.op) (allow true base y.pre) base g1 m → g.hp m = g1.hp m := fun m hm => (out1 m (A m hm)).symm
  refine ⟨_, w3' g hAg, ?_⟩
  rw [w3 _ (fun m hm => ?_)]
  · congr 2
    have : g2 = ⟨g2.hp, g2.nx⟩ := rfl
    rw [this]
    congr 1
    · funext m
      show (if W m then g1.hp m else if W' m then g2.hp m else g.hp m) = g2.hp m
      by_cases hm : W m
      · rw [if_pos hm]
        exact (w2' m (fun h' => B m (w1' m h') (w1 m hm))).symm
      · rw [if_neg hm]
        by_cases hm' : W' m
        · rw [if_pos hm']
        · rw [if_neg hm', w2' m hm', w2 m hm]
    · show g.nx = g2.nx
      rw [n2, n1]
  · show (if W' m then g2.hp m else g.hp m) = g.hp m
    rw [if_neg (fun h' => C m hm (w1' m h'))]
theorem ldF_any {call : CS} {al : Nat → Bool} {lo id : Nat} {op : AOp} (ho : fOp op = true) {e : Env} {g g1 : G} {v : AV} (h : opE call al lo id op e g = some (v, g1)) :
    g1 = g ∧ ∀ g' : G, (∀ i cs, g.hp i = some (.cells cs true) → g'.hp i = g.hp i) → opE call al lo id op e g' = some (v, g') := by
  cases op <;> first | (cases ho; done) | skip
  rename_i agg x
  simp only [opE] at h ⊢
  unfold vLdF at h ⊢
  split at h
  · obtain ⟨rfl, hk⟩ := any_map _ _ _ _ h
    exact ⟨rfl, fun g' _ => hk g'⟩
  · rename_i b off hx
    split at h
    · rename_i cs hb
      obtain ⟨rfl, hk⟩ := any_map _ _ _ _ h
      refine ⟨rfl, fun g' hg' => ?_⟩
      have hrd : rd g' al b = some (.cells cs true) := by
        unfold rd at hb ⊢
        split at hb
        · rename_i ha
          rw [if_pos ha, hg' b cs hb]; exact hb
        · cases hb
      simp only [hrd]
      exact hk g'
    · cases h
  · cases h
theorem stW_keeps {call : CS} {al : Nat → Bool} {lo id : Nat} {op : AOp} (ho : wOp op = true) {e : Env} {g g1 : G} {v : AV} (h : opE call al lo id op e g = some (v, g1)) :
    (∀ i cs, g.hp i = some (.cells cs true) → g1.hp i = g.hp i) ∧ (∀ i cs, g1.hp i = some (.cells cs true) → g.hp i = g1.hp i) := by
  cases op <;> first | (cases ho; done) | skip
  rename_i n a x
  simp only [opE] at h
  unfold vSt at h
  split at h
  · rename_i b off hx
    split at h
    · rename_i cs hb
      split at h
      · cases h
        have hhp : g.hp b = some (.cells cs false) := by
          unfold rd at hb
          split at hb
          · exact hb
          · cases hb
        refine ⟨fun i ds hi => ?_, fun i ds hi => ?_⟩
        · have hne : i ≠ b := fun h => by subst h; rw [hhp] at hi; cases hi
          show upd _ _ _ _ = _
          rw [upd, if_neg hne]
        · have hne : i ≠ b := fun h => by
            subst h
            have hi : upd g.hp i _ i = _ := hi
            rw [upd, if_pos rfl] at hi
            cases hi
          show _ = upd _ _ _ _
          rw [upd, if_neg hne]
      · cases h
    · cases h
  · cases h
theorem ldQ_any {call : CS} {al : Nat → Bool} {lo id : Nat} {agg : Option Nat} {x : Opd} {t : Nat} {e : Env} {g g1 : G} {v : AV} (h : opE call al lo id (.ldQ agg x t) e g = some (v, g1)) :
    g1 = g ∧ ∀ g' : G, (∀ i, i ∈ ids1 (e t) → g'.hp i = g.hp i) → opE call al lo id (.ldQ agg x t) e g' = some (v, g') := by
  simp only [opE] at h ⊢
  unfold vLdQ at h ⊢
  split at h
  · rename_i b off hx
    split at h
    · rename_i hb0
      split at h
      · rename_i cs ro hb
        obtain ⟨rfl, hk⟩ := any_map _ _ _ _ h
        refine ⟨rfl, fun g' hg' => ?_⟩
        have hrd : rd g' al b = some (.cells cs ro) := by
          unfold rd at hb ⊢
          split at hb
          · rename_i ha
            rw [if_pos ha, hg' b (by simpa using hb0)]; exact hb
          · cases hb
        rw [if_pos hb0]
        simp only [hrd]
        exact hk g'
      · cases h
    · cases h
  · cases h
theorem stN_keeps {call : CS} {al : Nat → Bool} {lo id : Nat} {n : Nat} {a x : Opd} {ts : List Nat} {e : Env} {g g1 : G} {v : AV} (h : opE call al lo id (.stN n a x ts) e g = some (v, g1)) {t : Nat} (ht : t ∈ ts) {i : Nat} (hi : i ∈ ids1 (e t)) : g1.hp i = g.hp i := by
  simp only [opE] at h
  unfold vStN at h
  split at h
  · rename_i hall
    unfold vSt at h
    split at h
    · rename_i b off hx
      split at h
      · split at h
        · cases h
          have hne : i ≠ b := by
            intro hib
            subst hib
            rw [hx] at hall
            have h1 := List.all_eq_true.1 hall i (by simp [ids1])
            have h2 : i ∈ (ts.map e).flatMap ids1 := List.mem_flatMap.2 ⟨e t, List.mem_map.2 ⟨t, ht, rfl⟩, hi⟩
            have h3 : ((ts.map e).flatMap ids1).contains i = true := by simpa using h2
            rw [h3] at h1
            cases h1
          show upd _ _ _ _ = _
          rw [upd, if_neg hne]
        · cases h
      · cases h
    · cases h
  · cases h
theorem opE_swapQ {call : CS} {base k i : Nat} {x y : AOper} (hc : qnOk x.op y.op = true) {e : Env} {g g1 g2 : G} {v u : AV}
    (h1 : opE call (allow true base x.pre) base (base + k) x.op e g = some (v, g1)) (h2 : opE call (allow true base y.pre) base (base + i) y.op e g1 = some (u, g2)) :
    ∃ g1', opE call (allow true base y.pre) base (base + i) y.op e g = some (u, g1') ∧ opE call (allow true base x.pre) base (base + k) x.op e g1' = some (v, g2) := by
  unfold qnOk at hc
  split at hc
  · rename_i hx hy
    rw [hx] at h1 ⊢
    rw [hy] at h2 ⊢
    obtain ⟨rfl, _⟩ := ldQ_any h1
    obtain ⟨rfl, _⟩ := ldQ_any h2
    exact ⟨g2, h2, h1⟩
  · rename_i hx hy
    rw [hx] at h1 ⊢
    rw [hy] at h2 ⊢
    obtain ⟨rfl, k1⟩ := ldQ_any h1
    exact ⟨g2, h2, k1 g2 fun j hj => stN_keeps h2 (by simpa using hc) hj⟩
  · rename_i hx hy
    rw [hx] at h1 ⊢
    rw [hy] at h2 ⊢
    obtain ⟨rfl, k2⟩ := ldQ_any h2
    exact ⟨g, k2 g fun j hj => (stN_keeps h1 (by simpa using hc) hj).symm, h1⟩
  · cases hc
theorem ld_any {call : CS} {al : Nat → Bool} {lo id : Nat} {agg : Option Nat} {x : Opd} {e : Env} {g g1 : G} {v : AV} (h : opE call al lo id (.ld agg x) e g = some (v, g1)) :
    g1 = g ∧ ∀ g' : G, (∀ i b, g.hp i = some b → g'.hp i = some b) → opE call al lo id (.ld agg x) e g' = some (v, g') := by
  have F := foot_all (fun h => by cases h) h
  obtain ⟨hnx, _, W, h1, h2, h3⟩ := F
  have hW : ∀ i, ¬ W i := fun i hi => h1 i hi
  have hg : g1 = g := by
    obtain ⟨hp, nx⟩ := g
    obtain ⟨hp1, nx1⟩ := g1
    simp only at hnx h2
    subst hnx
    congr 1
    funext i
    exact h2 i (hW i)
  refine ⟨hg, fun g' hk => ?_⟩
  rw [h3 g' fun i hi => by
    have hc : CM (g.hp i) := hi.2
    cases hb : g.hp i with
    | none => rw [hb] at hc; exact hc.elim
    | some b => exact hk i b hb]
  congr 2
  obtain ⟨hp', nx'⟩ := g'
  congr 1
  funext i
  exact if_neg (hW i)
theorem opE_swapS {call : CS} {base k i : Nat} {x y : AOper} (hc : seeOk x.op y.op = true) {e : Env} {g g1 g2 : G} {v u : AV}
    (h1 : opE call (allow true base x.pre) base (base + k) x.op e g = some (v, g1)) (h2 : opE call (allow true base y.pre) base (base + i) y.op e g1 = some (u, g2)) :
    ∃ g1', opE call (allow true base y.pre) base (base + i) y.op e g = some (u, g1') ∧ opE call (allow true base x.pre) base (base + k) x.op e g1' = some (v, g2) := by
  unfold seeOk at hc
  split at hc
  · rename_i hx hy
    rw [hx] at h1 ⊢
    rw [hy] at h2 ⊢
    obtain ⟨rfl, k1⟩ := ld_any h1
    refine ⟨g2, h2, k1 g2 ?_⟩
    simp only [opE, vCall] at h2
    split at h2
    · obtain ⟨g', hce, h3, hkp⟩ := seeR_inv h2
      simp only at h3
      rw [h3]
      exact hkp
    · cases h2
  · cases hc
theorem opE_swap {call : CS} {base k i : Nat} (hki : k ≠ i) {x y : AOper} (hc : clsOk k i x y = true) {e : Env} {g g1 g2 : G} {v u : AV}
    (h1 : opE call (allow true base x.pre) base (base + k) x.op e g = some (v, g1)) (h2 : opE call (allow true base y.pre) base (base + i) y.op e g1 = some (u, g2)) :
    ∃ g1', opE call (allow true base y.pre) base (base + i) y.op e g = some (u, g1') ∧ opE call (allow true base x.pre) base (base + k) x.op e g1' = some (v, g2) := by
  unfold clsOk at hc
  rw [Bool.or_eq_true, Bool.or_eq_true, Bool.or_eq_true] at hc
  rcases hc with hc | hc | hc | hc
  · exact opE_swapS hc h1 h2
  · exact opE_swapQ hc h1 h2
  · unfold fwOk at hc
    simp only [Bool.or_eq_true, Bool.and_eq_true] at hc
    rcases hc with (⟨hx, hy⟩ | ⟨hx, hy⟩) | ⟨hx, hy⟩
    · obtain ⟨rfl, k1⟩ := ldF_any hx h1
      obtain ⟨rfl, k2⟩ := ldF_any hy h2
      exact ⟨g2, h2, h1⟩
    · obtain ⟨rfl, k1⟩ := ldF_any hx h1
      exact ⟨g2, h2, k1 g2 (stW_keeps hy h2).1⟩
    · obtain ⟨rfl, k2⟩ := ldF_any hy h2
      exact ⟨g, k2 g (stW_keeps hx h1).2, h1⟩
  · exact opE_swap0 hki hc h1 h2
theorem stepV_swap {call : CS} {base k i : Nat} (hki : k ≠ i) {x y : AOper} (hc : clsOk k i x y = true) {e : Env} {g g1 g2 : G} {v u : AV}
    (h1 : stepV call base k x e g = some (v, g1)) (h2 : stepV call base i y e g1 = some (u, g2)) : ∃ g1', stepV call base i y e g = some (u, g1') ∧ stepV call base k x e g1' = some (v, g2) := by
  unfold stepV at *
  by_cases hx : wanted e x.grd = true
  · rw [if_pos hx] at h1
    by_cases hy : wanted e y.grd = true
    · rw [if_pos hy] at h2
      obtain ⟨g1', h3, h4⟩ := opE_swap hki hc h1 h2
      exact ⟨g1', by rw [if_pos hy]; exact h3, by rw [if_pos hx]; exact h4⟩
    · rw [if_neg hy] at h2
      cases h2
      exact ⟨g, by rw [if_neg hy], by rw [if_pos hx]; exact h1⟩
  · rw [if_neg hx] at h1
    cases h1
    exact ⟨g2, h2, by rw [if_neg hx]⟩
theorem opStep_swap {call : CS} {base k i : Nat} (hki : k ≠ i) {x y : AOper} (hc : swapB k i x y = true) {e e1 e2 : Env} {g g1 g2 : G}
    (h1 : opStep call true base k x e g = some (e1, g1)) (h2 : opStep call true base i y e1 g1 = some (e2, g2)) :
    ∃ e1' g1', opStep call true base i y e g = some (e1', g1') ∧ opStep call true base k x e1' g1' = some (e2, g2) := by
  simp only [swapB, Bool.and_eq_true] at hc
  obtain ⟨⟨⟨d1, d2⟩, d3⟩, d4⟩ := hc
  rw [opStep_V] at h1 h2
  cases hv : stepV call base k x e g with
  | none => rw [hv] at h1; cases h1
  | some r =>
    obtain ⟨v, g1⟩ := r
    rw [hv] at h1
    cases h1
    rw [stepV_congr (put_not d1 e v)] at h2
    cases hu : stepV call base i y e g1 with
    | none => rw [hu] at h2; cases h2
    | some r =>
      obtain ⟨u, g2⟩ := r
      rw [hu] at h2
      cases h2
      obtain ⟨g1', h3, h4⟩ := stepV_swap hki d4 hv hu
      refine ⟨put e y.dst u, g1', by rw [opStep_V, h3]; rfl, ?_⟩
      rw [opStep_V, stepV_congr (put_not d2 e u), h4]
      show some _ = some _
      rw [put_comm d3]
noncomputable def runL (call : CS) (base : Nat) (aos : List AOper) : List Nat → Env → G → Option (Env × G)
  | [], e, g => some (e, g)
  | i :: is, e, g => match aos[i]? with
    | some o => match opStep call true base i o e g with
      | some (e', g') => runL call base aos is e' g'
      | none => none
    | none => none
theorem runL_text (call : CS) (base : Nat) (aos : List AOper) : ∀ (os : List AOper) (j : Nat) (e : Env) (g : G), (∀ i o, os[i]? = some o → aos[j + i]? = some o) → runL call base aos (List.range' j os.length) e g = regE call true base j os e g
  | [], j, e, g, _ => rfl
  | o :: os, j, e, g, h => by
    rw [regE_step, List.length_cons, List.range'_succ]
    have h0 : aos[j]? = some o := by simpa using h 0 o rfl
    simp only [runL, h0]
    cases opStep call true base j o e g with
    | none => rfl
    | some r =>
      obtain ⟨e', g'⟩ := r
      exact runL_text call base aos os (j + 1) e' g' (fun i o' hi => by have := h (i + 1) o' (by simpa using hi); rwa [show j + (i + 1) = j + 1 + i by omega] at this)
theorem runL_front {call : CS} {base : Nat} {aos : List AOper} {i : Nat} {y : AOper} (hy : aos[i]? = some y) : ∀ (pre post : List Nat) (e e' : Env) (g g' : G), (∀ k ∈ pre, k ≠ i ∧ ∀ x, aos[k]? = some x → swapB k i x y = true) →
    runL call base aos (pre ++ i :: post) e g = some (e', g') → runL call base aos (i :: (pre ++ post)) e g = some (e', g')
  | [], post, e, e', g, g', _, h => h
  | k :: pre, post, e, e', g, g', hp, h => by
    rw [List.cons_append] at h
    simp only [runL] at h
    split at h
    · rename_i x hx
      split at h
      · rename_i e1 g1 hst
        have := runL_front hy pre post e1 e' g1 g' (fun m hm => hp m (List.mem_cons_of_mem _ hm)) h
        simp only [runL, hy] at this
        split at this
        · rename_i e2 g2 hst2
          obtain ⟨hne, hsw⟩ := hp k (List.mem_cons_self ..)
          obtain ⟨e1', g1', h3, h4⟩ := opStep_swap hne (hsw x hx) hst hst2
          simp only [runL, hy, h3, List.cons_append, hx, h4]
          exact this
        · cases this
      · cases h
    · cases h
def cloAt (es : Array Edge) (clo : List Nat) : Nat :=
  es.foldl (fun b e => if Region.binds .any e then b ||| (1 <<< e.on) ||| (clo.getD e.on 0) else b) 0
def clos : List Oper → List Nat → List Nat
  | [], clo => clo
  | o :: os, clo => clos os (clo ++ [cloAt o.after clo])
def edgesB : Nat → List Oper → Bool
  | _, [] => true
  | j, o :: os => o.after.all (fun e => !Region.binds .any e || decide (e.on < j)) && edgesB (j + 1) os
def pairsB (clo : Nat) (i : Nat) (y : AOper) : Nat → List AOper → Bool
  | _, [] => true
  | k, x :: xs => (clo.testBit k || swapB k i x y) && pairsB clo i y (k + 1) xs
def drawB (aos : List AOper) : Nat → List AOper → List Nat → Bool
  | _, [], _ => true
  | i, y :: ys, clo :: cs => pairsB clo i y 0 (aos.take i) && drawB aos (i + 1) ys cs
  | _, _ :: _, [] => false
end Go.Ab
end
section
set_option linter.unusedVariables false
set_option linter.unusedSimpArgs false
set_option linter.unnecessarySimpa false
namespace Go.Ab
open Go.RowKit
theorem testBit_fold (es : List Edge) (clo : List Nat) (k : Nat) : ∀ b : Nat, (es.foldl (fun b e => if Region.binds .any e then b ||| (1 <<< e.on) ||| (clo.getD e.on 0) else b) b).testBit k = true →
    b.testBit k = true ∨ ∃ e ∈ es, Region.binds .any e = true ∧ (k = e.on ∨ (clo.getD e.on 0).testBit k = true) := by
  induction es with
  | nil => intro b h; exact .inl h
  | cons e es ih =>
    intro b h
    rw [List.foldl_cons] at h
    rcases ih _ h with h1 | ⟨e', he', h2⟩
    · by_cases hb : Region.binds .any e = true
      · rw [if_pos hb] at h1
        simp only [Nat.testBit_or, Bool.or_eq_true] at h1
        rcases h1 with (h1 | h1) | h1
        · exact .inl h1
        · refine .inr ⟨e, List.mem_cons_self .., hb, .inl ?_⟩
          rw [Nat.testBit_shiftLeft] at h1
          simp only [Bool.and_eq_true, decide_eq_true_eq] at h1
          have h2 : Nat.testBit 1 (k - e.on) = true := h1.2
          have h3 : k - e.on = 0 := by
            cases hz : k - e.on with
            | zero => rfl
            | succ z => rw [hz] at h2; simp [Nat.testBit_succ] at h2
          omega
        · exact .inr ⟨e, List.mem_cons_self .., hb, .inr h1⟩
      · rw [if_neg hb] at h1
        exact .inl h1
    · exact .inr ⟨e', List.mem_cons_of_mem _ he', h2⟩
def cloB (clo : List Nat) : List Oper → List Nat → Bool
  | [], [] => true
  | o :: os, c :: cs => (cloAt o.after clo == c) && cloB clo os cs
  | _, _ => false
theorem cloB_get {clo : List Nat} : ∀ {os : List Oper} {cs : List Nat}, cloB clo os cs = true → os.length = cs.length ∧ ∀ (i : Nat) o, os[i]? = some o → cs[i]? = some (cloAt o.after clo)
  | [], [], _ => ⟨rfl, fun _ _ h => by simp at h⟩
  | [], _ :: _, h => by simp [cloB] at h
  | _ :: _, [], h => by simp [cloB] at h
  | o :: os, c :: cs, h => by
    simp only [cloB, Bool.and_eq_true, beq_iff_eq] at h
    obtain ⟨h1, h2⟩ := cloB_get h.2
    refine ⟨by simp [h1], fun i o' hi => ?_⟩
    cases i with
    | zero => simp at hi; subst hi; simp [h.1]
    | succ i => simp at hi ⊢; exact h2 i o' hi
theorem edgesB_get : ∀ {os : List Oper} {j : Nat}, edgesB j os = true → ∀ (i : Nat) o, os[i]? = some o → ∀ e ∈ o.after, Region.binds .any e = true → e.on < j + i
  | [], _, _, _, _, h => by simp at h
  | o :: os, j, h, i, o', hi => by
    simp only [edgesB, Bool.and_eq_true] at h
    cases i with
    | zero =>
      simp at hi; subst hi
      intro e he hb
      have := Array.all_eq_true_iff_forall_mem.1 h.1 e he
      rw [hb] at this
      simpa using this
    | succ i =>
      simp at hi
      intro e he hb
      have := edgesB_get h.2 i o' hi e he hb
      omega
def Closed (ops : List Oper) (L : Nat → Bool) : Prop := ∀ (i : Nat) o, ops[i]? = some o → L i = true → ∀ e ∈ o.after, Region.binds .any e = true → L e.on = true
theorem clo_sound {ops : List Oper} {clo : List Nat} (hc : cloB clo ops clo = true) (he : edgesB 0 ops = true) {L : Nat → Bool} (hL : Closed ops L) : ∀ (i : Nat) (o : Oper), ops[i]? = some o → (∀ e ∈ o.after, Region.binds .any e = true → L e.on = true) → ∀ k, (clo.getD i 0).testBit k = true → L k = true := by
  intro i
  induction i using Nat.strongRecOn with
  | _ i ih =>
    intro o ho hp k hk
    obtain ⟨hl, hg⟩ := cloB_get hc
    have h1 : clo.getD i 0 = cloAt o.after clo := by rw [List.getD_eq_getElem?_getD, hg i o ho]; rfl
    rw [h1] at hk
    unfold cloAt at hk
    rw [← Array.foldl_toList] at hk
    rcases testBit_fold _ _ _ _ hk with h2 | ⟨e, hm, hb, h2⟩
    · simp at h2
    · have hm' : e ∈ o.after := Array.mem_toList_iff.1 hm
      rcases h2 with rfl | h2
      · exact hp e hm' hb
      · have hlt := edgesB_get he i o ho e hm' hb
        cases ho' : ops[e.on]? with
        | none =>
          rw [List.getElem?_eq_none_iff] at ho'
          rw [List.getD_eq_getElem?_getD, List.getElem?_eq_none (by omega)] at h2
          simp at h2
        | some o' => exact ih e.on (by omega) o' ho' (fun e' he' hb' => hL e.on o' ho' (hp e hm' hb) e' he' hb') k h2
theorem pairsB_get {clo i : Nat} {y : AOper} : ∀ {xs : List AOper} {j : Nat}, pairsB clo i y j xs = true → ∀ (k : Nat) x, xs[k]? = some x → clo.testBit (j + k) = true ∨ swapB (j + k) i x y = true
  | [], _, _, _, _, h => by simp at h
  | x :: xs, j, h, k, x', hk => by
    simp only [pairsB, Bool.and_eq_true, Bool.or_eq_true] at h
    cases k with
    | zero => simp at hk; subst hk; exact h.1
    | succ k =>
      simp at hk
      have := pairsB_get h.2 k x' hk
      rwa [show j + 1 + k = j + (k + 1) by omega] at this
theorem drawB_get {aos : List AOper} : ∀ {ys : List AOper} {cs : List Nat} {j : Nat}, drawB aos j ys cs = true → ∀ (i : Nat) y, ys[i]? = some y → pairsB (cs.getD i 0) (j + i) y 0 (aos.take (j + i)) = true
  | [], _, _, _, _, _, h => by simp at h
  | y :: ys, [], _, h, _, _, _ => by simp [drawB] at h
  | y :: ys, c :: cs, j, h, i, y', hi => by
    simp only [drawB, Bool.and_eq_true] at h
    cases i with
    | zero => simp at hi; subst hi; simpa using h.1
    | succ i =>
      simp at hi
      have := drawB_get h.2 i y' hi
      rw [show j + 1 + i = j + (i + 1) by omega] at this
      simpa using this
theorem opersB_get {P : Program} {nm : Nat → Nat} {N : Nat} {ops : Array Oper} : ∀ {os : List Oper} {aos : List AOper}, opersB P nm N ops os aos = true → os.length = aos.length ∧ ∀ (i : Nat) o, os[i]? = some o → ∃ ao, aos[i]? = some ao ∧ operB P nm N ops o ao = true
  | [], [], _ => ⟨rfl, fun _ _ h => by simp at h⟩
  | [], _ :: _, h => by simp [opersB] at h
  | _ :: _, [], h => by simp [opersB] at h
  | o :: os, ao :: aos, h => by
    simp only [opersB, Bool.and_eq_true] at h
    obtain ⟨h1, h2⟩ := opersB_get h.2
    refine ⟨by simp [h1], fun i o' hi => ?_⟩
    cases i with
    | zero => simp at hi; subst hi; exact ⟨ao, rfl, h.1⟩
    | succ i => simp at hi ⊢; exact h2 i o' hi
def regB (P : Program) (nm : Nat → Nat) (N : Nat) (ops : Array Oper) (draw : Bool) (aos : List AOper) : Bool :=
  opersB P nm N ops ops.toList aos && (!draw || (edgesB 0 ops.toList && (let clo := clos ops.toList []; cloB clo ops.toList clo && drawB aos 0 aos clo)))
def pend (ops : Array Oper) (listed : Array Bool) : List Nat := (List.range ops.size).filter fun i => !listed.getD i true
theorem ready_some {ops : Array Oper} {listed : Array Bool} (he : edgesB 0 ops.toList = true) (hs : listed.size = ops.size) : ∀ i, i < ops.size → listed.getD i true = false → Region.ready .any ops listed ≠ [] := by
  intro i
  induction i using Nat.strongRecOn with
  | _ i ih =>
    intro hi hl hr
    have ho : ops[i]? = some ops[i] := Array.getElem?_eq_getElem hi
    by_cases hall : (ops[i].after.all fun e => !Region.binds .any e || listed.getD e.on false) = true
    · have : i ∈ Region.ready .any ops listed := by
        unfold Region.ready
        rw [List.mem_filter]
        exact ⟨List.mem_range.2 hi, by rw [hl, ho]; simpa using hall⟩
      rw [hr] at this
      cases this
    · rw [Array.all_eq_true_iff_forall_mem] at hall
      simp only [Bool.or_eq_true, Bool.not_eq_true'] at hall
      have : ∃ e ∈ ops[i].after, Region.binds .any e = true ∧ listed.getD e.on false ≠ true := by
        refine Classical.byContradiction fun hn => hall fun e hm => ?_
        by_cases hb : Region.binds .any e = true
        · by_cases hl : listed.getD e.on false = true
          · exact .inr hl
          · exact absurd ⟨e, hm, hb, hl⟩ hn
        · exact .inl (by simpa using hb)
      obtain ⟨e, hm, hb, hne⟩ := this
      have hlt := edgesB_get he i ops[i] (by simpa using ho) e hm hb
      have hlt' : e.on < ops.size := by omega
      refine ih e.on (by omega) hlt' ?_ hr
      have h1 : e.on < listed.size := by omega
      simp only [Array.getD_eq_getD_getElem?, Array.getElem?_eq_getElem h1, Option.getD_some] at hne ⊢
      simpa using hne
section
variable {P : Program} {call : CS} {N : Nat}
theorem any_wp {num : Nat → Nat} (hcall : CallOk P num call) (hk : CallKeep call) {ops : Array Oper} {aos : List AOper} (hb : regB P num N ops true aos = true) {Q : Exit → Act → World → Prop} {base : Nat} {e' : Env} {g' : G} :
    ∀ (fuel : Nat) (listed : Array Bool) {c : Cx} {e : Env} {g : G} {a : Act}, listed.size = ops.size → (pend ops listed).length = fuel → Closed ops.toList (fun i => listed.getD i false) → c.num = num → St N c e g a → base + ops.size ≤ g.nx →
    (∀ i ∈ pend ops listed, g.hp (base + i) = none) → runL call base aos (pend ops listed) e g = some (e', g') → (∀ c' a', Evo c c' → St N c' e' g' a' → Q .normal a' c'.w) → wpAny P .any ops Q fuel listed a c.w
  | 0, listed, c, e, g, a, hs, hl, hc, hn, S, hnx, hf, hr, hQ => by
    have hp : pend ops listed = [] := List.eq_nil_of_length_eq_zero hl
    refine ⟨?_, ?_⟩
    · refine List.eq_nil_iff_forall_not_mem.2 fun i hi => ?_
      have : i ∈ pend ops listed := by
        unfold Region.ready at hi
        rw [List.mem_filter] at hi
        unfold pend
        rw [List.mem_filter]
        exact ⟨hi.1, by have := hi.2; simp only [Bool.and_eq_true] at this; exact this.1⟩
      rw [hp] at this; cases this
    · rw [hp] at hr
      simp only [runL] at hr
      cases hr
      exact hQ c a (Evo.refl c) S
  | fuel + 1, listed, c, e, g, a, hs, hl, hc, hn, S, hnx, hf, hr, hQ => by
    simp only [regB, Bool.and_eq_true, Bool.not_true, Bool.false_or] at hb
    obtain ⟨hb1, hb2, hb3, hb4⟩ := hb
    refine ⟨fun h0 => ?_, fun i hi => ?_⟩
    · exfalso
      cases hp : pend ops listed with
      | nil => rw [hp] at hl; simp at hl
      | cons m ms =>
        have hm : m ∈ pend ops listed := by rw [hp]; exact List.mem_cons_self ..
        unfold pend at hm
        rw [List.mem_filter] at hm
        exact ready_some hb2 hs m (List.mem_range.1 hm.1) (by simpa using hm.2) h0
    · have hi' := hi
      unfold Region.ready at hi'
      rw [List.mem_filter] at hi'
      obtain ⟨hir, hiu⟩ := hi'
      have hilt : i < ops.size := List.mem_range.1 hir
      simp only [Bool.and_eq_true, Bool.not_eq_true'] at hiu
      obtain ⟨hul, hpre⟩ := hiu
      have ho : ops[i]? = some ops[i] := Array.getElem?_eq_getElem hilt
      rw [ho] at hpre
      simp only [Option.map_some, Option.getD_some] at hpre
      have hpre' : ∀ ed ∈ ops[i].after, Region.binds .any ed = true → listed.getD ed.on false = true := by
        intro ed hm hbd
        have := Array.all_eq_true_iff_forall_mem.1 hpre ed hm
        rw [hbd] at this
        simpa using this
      have him : i ∈ pend ops listed := by
        unfold pend; rw [List.mem_filter]; exact ⟨hir, by rw [hul]; rfl⟩
      obtain ⟨pre, post, hsplit⟩ := List.append_of_mem him
      have hsort : (pend ops listed).Pairwise (· < ·) := List.Pairwise.filter _ List.pairwise_lt_range
      rw [hsplit, List.pairwise_append] at hsort
      obtain ⟨s1, s2, s3⟩ := hsort
      rw [List.pairwise_cons] at s2
      obtain ⟨hlen, hget⟩ := opersB_get hb1
      obtain ⟨y, hy, hoy⟩ := hget i ops[i] (by simpa using ho)
      have hmem : ∀ k, k ∈ pre ∨ k ∈ post → k ∈ pend ops listed := by
        intro k hk; rw [hsplit]
        rcases hk with hk | hk
        · exact List.mem_append_left _ hk
        · exact List.mem_append_right _ (List.mem_cons_of_mem _ hk)
      have hfront := runL_front hy pre post e e' g g' (fun k hk => by
        have hki : k < i := s3 k hk i (List.mem_cons_self ..)
        refine ⟨by omega, fun x hx => ?_⟩
        have hpb := drawB_get hb4 i y hy
        rw [Nat.zero_add] at hpb
        have := pairsB_get hpb k x (by rw [List.getElem?_take_of_lt hki]; exact hx)
        rw [Nat.zero_add] at this
        rcases this with h1 | h1
        · exfalso
          have hL := clo_sound hb3 hb2 hc i ops[i] (by simpa using ho) hpre' k h1
          have hkm := hmem k (.inl hk)
          unfold pend at hkm
          rw [List.mem_filter] at hkm
          have hkl : k < listed.size := by rw [hs]; exact List.mem_range.1 hkm.1
          have h2 := hkm.2
          simp only [Array.getD_eq_getD_getElem?, Array.getElem?_eq_getElem hkl, Option.getD_some] at hL h2
          rw [hL] at h2; cases h2
        · exact h1) (by rw [hsplit] at hr; exact hr)
      simp only [runL, hy] at hfront
      have hpend' : pend ops (listed.setIfInBounds i true) = pre ++ post := by
        have h1 : pend ops (listed.setIfInBounds i true) = (pend ops listed).filter (fun k => k != i) := by
          unfold pend
          rw [List.filter_filter]
          refine List.filter_congr fun k hk => ?_
          have hkl : k < listed.size := by rw [hs]; exact List.mem_range.1 hk
          by_cases hki : k = i
          · subst hki
            rw [Array.getD_eq_getD_getElem?, Array.getElem?_setIfInBounds_self_of_lt hkl]
            simp
          · rw [Array.getD_eq_getD_getElem?, Array.getElem?_setIfInBounds_ne (fun h => hki h.symm), Array.getD_eq_getD_getElem?]
            simp [hki]
        rw [h1, hsplit, List.filter_append, List.filter_cons]
        have f1 : pre.filter (fun k => k != i) = pre := List.filter_eq_self.2 fun k hk => by
          have := s3 k hk i (List.mem_cons_self ..)
          simp; omega
        have f2 : post.filter (fun k => k != i) = post := List.filter_eq_self.2 fun k hk => by
          have := s2.1 k hk
          simp; omega
        rw [f1, f2]
        simp
      split at hfront
      · rename_i e1 g1 hst
        have hkp := opStep_keep hk hst
        refine opStep_wp (hn ▸ hcall) S ho (hn ▸ hoy) (hf i him) (by omega) hst (fun c1 a1 E1 S1 => ?_)
        have hb : regB P num N ops true aos = true := by
          simp only [regB, Bool.and_eq_true, Bool.not_true, Bool.false_or]
          exact ⟨hb1, hb2, hb3, hb4⟩
        refine any_wp hcall hk hb fuel (listed.setIfInBounds i true) (by simpa using hs) (by
            rw [hpend']
            rw [hsplit] at hl
            simp at hl ⊢
            omega) ?_ (E1.num.trans hn) S1 (Nat.le_trans hnx hkp.1) ?_ (by rw [hpend']; exact hfront) (fun c' a' E' S' => hQ c' a' (E1.trans E') S')
        · intro m o hm hlm ed hed hbd
          have hset : ∀ k, listed.getD k false = true → (listed.setIfInBounds i true).getD k false = true := by
            intro k hk
            by_cases hki : k = i
            · subst hki
              have hkl : k < listed.size := by omega
              rw [Array.getD_eq_getD_getElem?, Array.getElem?_setIfInBounds_self_of_lt hkl]; rfl
            · rw [Array.getD_eq_getD_getElem?, Array.getElem?_setIfInBounds_ne (fun h => hki h.symm), ← Array.getD_eq_getD_getElem?]; exact hk
          refine hset _ ?_
          by_cases hmi : m = i
          · subst hmi
            have : o = ops[m] := by
              have h2 : ops[m]? = some o := by simpa using hm
              rw [ho] at h2; cases h2; rfl
            subst this
            exact hpre' ed hed hbd
          · have hlm' : listed.getD m false = true := by
              have h3 : (listed.setIfInBounds i true).getD m false = true := hlm
              rw [Array.getD_eq_getD_getElem?, Array.getElem?_setIfInBounds_ne (fun h => hmi h.symm), ← Array.getD_eq_getD_getElem?] at h3
              exact h3
            exact hc m o hm hlm' ed hed hbd
        · intro k hk
          rw [hpend'] at hk
          have hkm := hmem k (List.mem_append.1 hk)
          have hki : k ≠ i := by
            rcases List.mem_append.1 hk with hk | hk
            · have := s3 k hk i (List.mem_cons_self ..); omega
            · have := s2.1 k hk; omega
          have hklt : k < ops.size := by
            unfold pend at hkm; rw [List.mem_filter] at hkm; exact List.mem_range.1 hkm.1
          exact hkp.2 _ (by omega) (by omega) (hf k hkm)
      · cases hfront
theorem region_wp {num : Nat → Nat} (hcall : CallOk P num call) (hk : CallKeep call) (hm : P.follows .mixedOrders = true) {ops : Array Oper} {draw : Bool} {aos : List AOper} (hb : regB P num N ops draw aos = true) {Q : Exit → Act → World → Prop} {id : Nat}
    {c : Cx} {e e' : Env} {g g' : G} {a : Act} (hn : c.num = num) (S : St N c e g a) (h : regE call draw g.nx 0 aos e { g with nx := g.nx + aos.length } = some (e', g')) (hQ : ∀ c' a', Evo c c' → St N c' e' g' a' → Q .normal a' c'.w) : (Code.region id ops draw).wp P Q a c.w := by
  have hb' := hb
  simp only [regB, Bool.and_eq_true] at hb'
  obtain ⟨hlen, _⟩ := opersB_get hb'.1
  have hlen' : ops.size = aos.length := by simpa using hlen
  have S' : St N c e { g with nx := g.nx + aos.length } a := ⟨S.env, ⟨S.ok.basele, S.ok.cells, S.ok.maps, S.ok.toks, S.ok.inj, fun id hid => S.ok.fresh id (by have : g.nx + aos.length ≤ id := hid; omega)⟩, S.hp, S.size, S.defers⟩
  have hfree : ∀ i, i < ops.size → g.hp (g.nx + i) = none := fun i _ => by rw [← S.hp]; exact S.ok.fresh _ (by omega)
  cases draw with
  | false =>
    refine wp_region ?_
    rw [List.range_eq_range']
    have := reg_wp (Q := Q) hcall hk (draw := false) (base := g.nx) (n := ops.size) ops.toList aos 0 hn (fun i o hi => by simpa using hi) hb'.1 (by simp) S' (by simp [hlen']) (fun i _ hi => hfree i hi) h hQ
    simpa using this
  | true =>
    refine wp_region_any hm ?_
    have hpend : pend ops (Array.replicate ops.size false) = List.range ops.size := by
      unfold pend
      refine List.filter_eq_self.2 fun i hi => ?_
      have hi := List.mem_range.1 hi
      rw [Array.getD_eq_getD_getElem?, Array.getElem?_replicate, if_pos hi]; rfl
    refine any_wp (c := c.drew) (base := g.nx) hcall hk hb ops.size (Array.replicate ops.size false) (by simp) (by rw [hpend]; simp) ?_ hn ⟨S'.env.evo (Evo.drew c), S'.ok.drew, S'.hp, S'.size, S'.defers⟩ (by show g.nx + ops.size ≤ g.nx + aos.length; omega) (fun i hi => ?_) ?_ (fun c' a' E Sc => hQ c' a' ((Evo.drew c).trans E) Sc)
    · intro i o _ hl
      have hl : (Array.replicate ops.size false).getD i false = true := hl
      rw [Array.getD_eq_getD_getElem?, Array.getElem?_replicate] at hl
      split at hl <;> cases hl
    · rw [hpend] at hi
      exact hfree i (List.mem_range.1 hi)
    · rw [hpend, List.range_eq_range', hlen']
      rw [runL_text call g.nx aos aos 0 e _ (fun i o hi => by simpa using hi)]
      exact h
end
end Go.Ab
end
section
set_option linter.unusedVariables false
set_option linter.unusedSimpArgs false
set_option linter.unnecessarySimpa false
namespace Go.Ab
open Go.RowKit
def codeB (P : Program) (nm : Nat → Nat) (N : Nat) : Code → ACode → Bool
  | .skip, .skip => true
  | .region _ ops d, .reg d' aos => (d == d') && regB P nm N ops d aos
  | .seq a b, .seq a' b' => codeB P nm N a a' && codeB P nm N b b'
  | .cond c t f, .cond c' t' f' => opdB nm c c' && codeB P nm N t t' && codeB P nm N f f'
  | .block i c, .blk i' c' => (i == i') && codeB P nm N c c'
  | cd, .lck _ c' => codeB P nm N cd c'
  | cd, .lckS _ c' => codeB P nm N cd c'
  | cd, .imm _ c' => codeB P nm N cd c'
  | cd, .tmp c' => codeB P nm N cd c'
  | .scope c, .scp c' => codeB P nm N c c'
  | .label _, .lab => true
  | .loop c, .loop c' => codeB P nm N c c'
  | .exit i, .ext i' => i == i'
  | .ret, .ret => true
  | _, _ => false
def Keeps (g g' : G) : Prop := g.nx ≤ g'.nx ∧ ∀ i, i < g.nx → g.hp i = none → g'.hp i = none
theorem Keeps.refl (g : G) : Keeps g g := ⟨Nat.le_refl _, fun _ _ h => h⟩
theorem Keeps.trans {g g1 g2 : G} (h : Keeps g g1) (k : Keeps g1 g2) : Keeps g g2 := ⟨Nat.le_trans h.1 k.1, fun i hi hn => k.2 i (Nat.lt_of_lt_of_le hi h.1) (h.2 i hi hn)⟩
theorem regE_keep {call : CS} (hk : CallKeep call) {draw : Bool} {base : Nat} {e' : Env} {g' : G} : ∀ (aos : List AOper) (j : Nat) {e : Env} {g : G}, regE call draw base j aos e g = some (e', g') → g.nx ≤ g'.nx ∧ ∀ i, i < base → i < g.nx → g.hp i = none → g'.hp i = none
  | [], j, e, g, h => by simp only [regE] at h; cases h; exact ⟨Nat.le_refl _, fun _ _ _ h => h⟩
  | o :: os, j, e, g, h => by
    rw [regE_step] at h
    split at h
    · rename_i e1 g1 hst
      have h1 := opStep_keep hk hst
      have h2 := regE_keep hk os (j + 1) h
      exact ⟨Nat.le_trans h1.1 h2.1, fun i hb hi hn => h2.2 i hb (Nat.lt_of_lt_of_le hi h1.1) (h1.2 i hi (by omega) hn)⟩
    · cases h
theorem iter_keep {f : Env → G → Option (Out × Env × G)} (hf : ∀ e g o e' g', f e g = some (o, e', g') → Keeps g g') : ∀ (k : Nat) {e : Env} {g : G} {o : Out} {e' : Env} {g' : G}, iter f k e g = some (o, e', g') → Keeps g g'
  | 0, _, _, _, _, _, h => by simp [iter] at h
  | k + 1, e, g, o, e', g', h => by
    simp only [iter] at h
    split at h
    · rename_i e1 g1 h1
      exact (hf _ _ _ _ _ h1).trans (iter_keep hf k h)
    · exact hf _ _ _ _ _ h
theorem codeE_keep {call : CS} (hk : CallKeep call) (k : Nat) : ∀ (c : ACode) {e : Env} {g : G} {o : Out} {e' : Env} {g' : G}, codeE call k c e g = some (o, e', g') → Keeps g g'
  | .skip, _, _, _, _, _, h => by simp only [codeE] at h; cases h; exact Keeps.refl _
  | .reg draw ops, e, g, _, _, _, h => by
    simp only [codeE] at h
    split at h
    · rename_i e1 g1 h1
      cases h
      have := regE_keep hk ops 0 h1
      exact ⟨Nat.le_trans (Nat.le_add_right _ _) this.1, fun i hi hn => this.2 i hi (Nat.lt_of_lt_of_le hi (Nat.le_add_right _ _)) hn⟩
    · cases h
  | .seq a b, _, _, _, _, _, h => by
    simp only [codeE] at h
    split at h
    · rename_i e1 g1 h1
      exact (codeE_keep hk k a h1).trans (codeE_keep hk k b h)
    · exact codeE_keep hk k a h
  | .cond c t f, e, g, _, _, _, h => by
    simp only [codeE] at h
    split at h
    · split at h
      · exact codeE_keep hk k t h
      · exact codeE_keep hk k f h
    · cases h
  | .blk id c, _, _, _, _, _, h => by
    simp only [codeE] at h
    split at h
    · rename_i n e1 g1 h1
      cases h
      exact codeE_keep hk k c h1
    · exact codeE_keep hk k c h
  | .scp c, _, _, _, _, _, h => by
    simp only [codeE] at h
    exact codeE_keep hk k c h
  | .lab, _, _, _, _, _, h => by simp only [codeE] at h; cases h; exact Keeps.refl _
  | .tmp c, e0, gg, _, _, _, h => by
    simp only [codeE] at h
    split at h
    · rename_i o e2 g2 h1
      split at h
      · cases h
        exact ⟨(codeE_keep hk k c h1).1, fun _ _ hn => hn⟩
      · cases h
    · cases h
  | .imm t c, e0, gg, _, _, _, h => by
    simp only [codeE] at h
    split at h
    · rename_i v hv
      have h2 := codeE_keep hk k c h
      refine Keeps.trans (g1 := ⟨Ab.lock gg.hp (vis gg.hp depth (e0 t)), gg.nx⟩) ⟨Nat.le_refl _, fun i hi hn => ?_⟩ h2
      show Ab.lock _ _ _ = none
      rcases lock_cases _ _ i with h' | ⟨_, cs, ro, h1, _⟩
      · rw [h']; exact hn
      · rw [hn] at h1; cases h1
    · cases h
  | .lckS t c, e0, gg, _, _, _, h => by
    simp only [codeE] at h
    have h2 := codeE_keep hk k c h
    refine Keeps.trans (g1 := ⟨Ab.lock gg.hp (ids1 (e0 t)), gg.nx⟩) ⟨Nat.le_refl _, fun i hi hn => ?_⟩ h2
    show Ab.lock _ _ _ = none
    rcases lock_cases _ _ i with h' | ⟨_, cs, ro, h1, _⟩
    · rw [h']; exact hn
    · rw [hn] at h1; cases h1
  | .lck t c, e0, gg, _, _, _, h => by
    simp only [codeE] at h
    have h2 := codeE_keep hk k c h
    refine Keeps.trans (g1 := ⟨Ab.lock gg.hp (vis gg.hp depth (e0 t)), gg.nx⟩) ⟨Nat.le_refl _, fun i hi hn => ?_⟩ h2
    show Ab.lock _ _ _ = none
    rcases lock_cases _ _ i with h' | ⟨_, cs, ro, h1, _⟩
    · rw [h']; exact hn
    · rw [hn] at h1; cases h1
  | .loop c, _, _, _, _, _, h => by
    simp only [codeE] at h
    exact iter_keep (fun e g o e' g' h => codeE_keep hk k c h) k h
  | .ext _, _, _, _, _, _, h => by simp only [codeE] at h; cases h; exact Keeps.refl _
  | .ret, _, _, _, _, _, h => by simp only [codeE] at h; cases h; exact Keeps.refl _
theorem St.lock {N : Nat} {c : Cx} {e : Env} {g : G} {a : Act} (S : St N c e g a) (ids : List Nat) : St N (c.lock ids) e ⟨Ab.lock g.hp ids, g.nx⟩ a :=
  ⟨S.env.evo (Evo.lock c ids), S.ok.lock ids, by show Ab.lock c.hp ids = _; rw [S.hp], S.size, S.defers⟩
theorem tmpOk_at {hp hp2 : Nat → Option Blk} {n i : Nat} (h : tmpOk hp hp2 n = true) (hi : i < n) : (∀ es, hp i ≠ some (.map es)) ∧ (hp i = some (.tok true) → hp2 i = some (.tok true)) ∧ (∀ cs ro, hp i = some (.cells cs ro) → ∃ cs' ro', hp2 i = some (.cells cs' ro')) := by
  have := List.all_eq_true.1 h i (List.mem_range.2 hi)
  refine ⟨fun es he => ?_, fun he => ?_, fun cs ro he => ?_⟩
  · rw [he] at this; cases this
  · rw [he] at this
    simp only at this
    split at this
    · assumption
    · cases this
  · rw [he] at this
    simp only at this
    split at this
    · exact ⟨_, _, by assumption⟩
    · cases this
theorem lock_isSome {hp : Nat → Option Blk} {ids : List Nat} {i : Nat} (h : (hp i).isSome) : (Ab.lock hp ids i).isSome := by
  rcases lock_cases hp ids i with h1 | ⟨_, cs, ro, _, h1⟩
  · rw [h1]; exact h
  · rw [h1]; rfl
def Cx.unl (c1 : Cx) (hp : Nat → Option Blk) : Cx := { c1 with hp := hp }
section
variable {c c1 : Cx} {nx nx2 : Nat}
theorem id_lt (K : Ok c nx) {i : Nat} (h : (c.hp i).isSome) : i < nx := by
  by_cases hi : i < nx
  · exact hi
  · rw [K.fresh i (by omega)] at h; cases h
theorem Evo.unl (K : Ok c nx) (E1 : Evo (c.lock (List.range nx)) c1) (hk : tmpOk c.hp c1.hp nx = true) : Evo c (c1.unl c.hp) where
  num := E1.num
  base := E1.base
  J := E1.J
  below := E1.below
  imm := fun ad hI => by
    have h1 := E1.imm ad ((Evo.lock c (List.range nx)).imm ad hI).1
    refine ⟨?_, fun v hv => h1.2 v hv⟩
    have hb : c1.base = c.base := E1.base
    rcases hI with ⟨a1, a2⟩ | ⟨a1, a2, a3⟩
    · refine .inl ⟨by show _ < c1.base; rw [hb]; exact a1, ?_⟩
      have : c1.J = c.J := E1.J
      show c1.J ad
      rw [this]; exact a2
    · refine .inr ⟨by show c1.base ≤ _; rw [hb]; exact a1, Nat.lt_of_lt_of_le a2 E1.below.size, fun hw => a3 ?_⟩
      rcases hw with ⟨i, cs, hi, hl⟩ | ⟨i, hi, hl, ho⟩
      · have hi' : c.hp i = some (.cells cs false) := hi
        have e := (E1.ids i (lock_isSome (by show (c.hp i).isSome; rw [hi']; rfl))).2
        have hl' : (c1.loc i).1 = ad.block := hl
        rw [e] at hl'
        exact .inl ⟨i, cs, hi', hl'⟩
      · have hi' : c.hp i = some (.tok true) := hi
        have e := (E1.ids i (lock_isSome (by show (c.hp i).isSome; rw [hi']; rfl))).2
        have hl' : (c1.loc i).1 = ad.block := hl
        have ho' : (c1.loc i).2 ≤ ad.off := ho
        rw [e] at hl' ho'
        exact .inr ⟨i, hi', hl', ho'⟩
  ids := fun i hi => ⟨hi, (E1.ids i (lock_isSome hi)).2⟩
  tok := fun i hi ht => by
    have ht : c.hp i = some (.tok true) := ht
    refine ⟨ht, ?_⟩
    exact (E1.tok i (lock_isSome hi) ((tmpOk_at hk (id_lt K hi)).2.1 ht)).2
  cel := fun i cs ro hi hc => by
    have hc : c.hp i = some (.cells cs ro) := hc
    obtain ⟨cs', ro', h1⟩ := (tmpOk_at hk (id_lt K hi)).2.2 cs ro hc
    obtain ⟨_, _, _, _, h2⟩ := E1.cel i cs' ro' (lock_isSome hi) h1
    exact ⟨cs, ro, hc, rfl, h2⟩
theorem Ok.unl (K : Ok c nx) (E1 : Evo (c.lock (List.range nx)) c1) (hk : tmpOk c.hp c1.hp nx = true) (K1 : Ok c1 nx2) (hn : nx ≤ nx2) : Ok (c1.unl c.hp) nx2 := by
  have E := Evo.unl K E1 hk
  have hloc : ∀ i, (c.hp i).isSome → c1.loc i = c.loc i := fun i hi => (E.ids i hi).2
  refine ⟨K1.basele, ?_, ?_, ?_, ?_, ?_⟩
  · intro i cs ro hi
    have hi : c.hp i = some (.cells cs ro) := hi
    have hs : (c.hp i).isSome := by rw [hi]; rfl
    obtain ⟨cs1, ro1, h1⟩ := (tmpOk_at hk (id_lt K hs)).2.2 cs ro hi
    obtain ⟨k1, vs1, us1, ty1, k2, k3, _⟩ := K1.cells i cs1 ro1 h1
    obtain ⟨cs0, ro0, h0, hl0, _⟩ := E1.cel i cs1 ro1 (lock_isSome hs) h1
    obtain ⟨j1, vs, us, ty, j2, j3, j4⟩ := K.cells i cs ro hi
    have hcl : cs.length = cs1.length := by
      rcases lock_cases c.hp (List.range nx) i with h | ⟨_, cs2, ro2, h3, h4⟩
      · have h0' : Ab.lock c.hp (List.range nx) i = some (.cells cs0 ro0) := h0
        rw [h, hi] at h0'; cases h0'; exact hl0
      · have h0' : Ab.lock c.hp (List.range nx) i = some (.cells cs0 ro0) := h0
        rw [h4] at h0'
        rw [hi] at h3
        cases h3; cases h0'; exact hl0
    have hvl : vs.length = vs1.length := by rw [← j3.1, hcl, k3.1]
    have hv : vs1 = vs := by
      refine List.ext_getElem? fun j => ?_
      by_cases hj : j < vs.length
      · have hc0 : c.w.cell? ⟨(c.loc i).1, j, none⟩ = some vs[j] := by
          rw [cell_of_heap j2]
          simp [List.getElem?_append_left hj]
        have hI : (c.lock (List.range nx)).I ⟨(c.loc i).1, j, none⟩ := by
          refine .inr ⟨j1, (Array.getElem?_eq_some_iff.1 j2).1, fun hw => ?_⟩
          rcases hw with ⟨i', cs', hi', hl'⟩ | ⟨i', hi', hl', ho'⟩
          · have hi' : Ab.lock c.hp (List.range nx) i' = some (.cells cs' false) := hi'
            rcases lock_cases c.hp (List.range nx) i' with h | ⟨_, cs2, ro2, h3, h4⟩
            · rw [h] at hi'
              have hlt := id_lt K (i := i') (by rw [hi']; rfl)
              have : Ab.lock c.hp (List.range nx) i' = some (.cells cs' true) := by
                unfold Ab.lock
                rw [if_pos (by simpa using hlt), hi']
              rw [h, hi'] at this
              cases this
            · rw [h4] at hi'; cases hi'
          · have hi' : Ab.lock c.hp (List.range nx) i' = some (.tok true) := hi'
            have hi2 : c.hp i' = some (.tok true) := by
              rcases lock_cases c.hp (List.range nx) i' with h | ⟨_, cs2, ro2, h3, h4⟩
              · rw [← h]; exact hi'
              · rw [h4] at hi'; cases hi'
            have hne : i' ≠ i := fun h => by rw [h, hi] at hi2; cases hi2
            exact K.inj i' i hne ⟨_, hi2, by simp⟩ ⟨_, hi, by simp⟩ hl'
        have h2 := (E1.imm _ hI).2 _ hc0
        rw [← hloc i hs, cell_of_heap k2] at h2
        have hj1 : j < vs1.length := hvl ▸ hj
        have h3 : (vs1 ++ us1)[j]? = some vs[j] := by simpa using h2
        rw [List.getElem?_append_left hj1] at h3
        rw [h3, List.getElem?_eq_getElem hj]
      · rw [List.getElem?_eq_none (by omega), List.getElem?_eq_none (by omega)]
    subst hv
    exact ⟨k1, vs1, us1, ty1, k2, j3.evo E, j4⟩
  · intro i es hi
    have hi : c.hp i = some (.map es) := hi
    exact absurd hi ((tmpOk_at hk (id_lt K (by rw [hi]; rfl))).1 es)
  · intro i hi
    have hi : c.hp i = some (.tok true) := hi
    exact K1.toks i ((tmpOk_at hk (id_lt K (by rw [hi]; rfl))).2.1 hi)
  · intro i j hij hi hj
    have hi : c.live i := hi
    have hj : c.live j := hj
    have si : (c.hp i).isSome := by obtain ⟨b, hb, _⟩ := hi; rw [hb]; rfl
    have sj : (c.hp j).isSome := by obtain ⟨b, hb, _⟩ := hj; rw [hb]; rfl
    show (c1.loc i).1 ≠ (c1.loc j).1
    rw [hloc i si, hloc j sj]
    exact K.inj i j hij hi hj
  · intro i hi
    exact K.fresh i (by omega)
theorem rigid_rep {hp : Nat → Option Blk} {x : AV} {v : Value} (h : Rep c1 true x v) : Rep (c1.unl hp) true (rigid hp x) v := by
  unfold rigid
  by_cases hf : flat x = true
  · rw [if_pos hf]; exact rep_flat hf h
  · rw [if_neg hf]
    cases h with
    | undef v hb => exact .undef v hb
    | b x => exact absurd rfl hf
    | i k n => exact absurd rfl hf
    | s x => exact absurd rfl hf
    | nilp => exact absurd rfl hf
    | nilf => exact absurd rfl hf
    | nili => exact absurd rfl hf
    | agg vs hl h => exact .undef _ (fun x h => by cases h)
    | tup vs hl h => exact .undef _ (fun x h => by cases h)
    | sl ad vs hc hm hr ho hz h1 hl ha hk h ht => exact .undef _ (fun x h => by cases h)
    | ptr ad vs h1 hl hk h => exact .undef _ (fun x h => by cases h)
    | mp id off h =>
      simp only
      by_cases hs : (hp id).isSome = true
      · rw [if_pos hs]; exact Rep.mp (c := c1.unl hp) id off hs
      · rw [if_neg hs]; exact .undef _ (fun x h => by cases h)
    | ms id off n cap h hc hm hp => exact .undef _ (fun x h => by cases h)
    | mc id k e n cap h hk hc hm hp => exact .undef _ (fun x h => by cases h)
    | fn vs us hl hl' h h' => exact .undef _ (fun x h => by cases h)
    | mm id h => exact .undef _ (fun x h => by cases h)
end
theorem St.unl {N : Nat} {c c1 : Cx} {e2 : Env} {g g2 : G} {a1 : Act} (K : Ok c g.nx) (hg : c.hp = g.hp) (E1 : Evo (c.lock (List.range g.nx)) c1) (S1 : St N c1 e2 g2 a1) (hk : tmpOk g.hp g2.hp g.nx = true) (hn : g.nx ≤ g2.nx) : St N (c1.unl g.hp) (tmpEnv g.hp e2) ⟨g.hp, g2.nx⟩ a1 := by
  rw [← hg] at hk ⊢
  rw [← S1.hp] at hk
  exact ⟨fun t => rigid_rep (S1.env t), Ok.unl K E1 hk S1.ok hn, rfl, S1.size, S1.defers⟩
def exOf : Out → Exit
  | .nrm => .normal
  | .ext n => .exit n
  | .ret => .ret
section
variable {P : Program} {call : CS} {N : Nat}
theorem rounds_wp {num : Nat → Nat} {cd : Code} {f : Env → G → Option (Out × Env × G)} {Q : Exit → Act → World → Prop}
    (hf : ∀ {Q : Exit → Act → World → Prop} {c : Cx} {e e' : Env} {g g' : G} {a : Act} {o : Out}, c.num = num → St N c e g a → f e g = some (o, e', g') → (∀ c' a', Evo c c' → St N c' e' g' a' → Q (exOf o) a' c'.w) → cd.wp P Q a c.w) :
    ∀ (k : Nat) {c : Cx} {e e' : Env} {g g' : G} {a : Act} {o : Out}, c.num = num → St N c e g a → iter f k e g = some (o, e', g') → (∀ c' a', Evo c c' → St N c' e' g' a' → Q (exOf o) a' c'.w) → (o = .nrm → False) → Code.rounds P cd Q k a c.w
  | 0, _, _, _, _, _, _, _, _, _, h, _, _ => by simp [iter] at h
  | k + 1, c, e, e', g, g', a, o, hn, S, h, hQ, hno => by
    simp only [iter] at h
    rw [rounds_succ]
    split at h
    · rename_i e1 g1 h1
      exact hf hn S h1 fun c1 a1 E1 S1 => rounds_wp hf k (E1.num.trans hn) S1 h (fun c' a' E' S' => hQ c' a' (E1.trans E') S') hno
    · refine hf hn S h fun c1 a1 E1 S1 => ?_
      have := hQ c1 a1 E1 S1
      cases o with
      | nrm => exact (hno rfl).elim
      | ext n => exact this
      | ret => exact this
theorem iter_out {f : Env → G → Option (Out × Env × G)} : ∀ (k : Nat) {e e' : Env} {g g' : G} {o : Out}, iter f k e g = some (o, e', g') → o = .nrm → False
  | 0, _, _, _, _, _, h, _ => by simp [iter] at h
  | k + 1, e, e', g, g', o, h, ho => by
    simp only [iter] at h
    split at h
    · exact iter_out k h ho
    · rename_i hne
      subst ho
      exact hne _ _ h
theorem code_wp {num : Nat → Nat} (hcall : CallOk P num call) (hk : CallKeep call) (hm : P.follows .mixedOrders = true) (k : Nat) : ∀ (ac : ACode) {cd : Code} {Q : Exit → Act → World → Prop} {c : Cx} {e e' : Env} {g g' : G} {a : Act} {o : Out},
    codeB P num N cd ac = true → c.num = num → St N c e g a → codeE call k ac e g = some (o, e', g') → (∀ c' a', Evo c c' → St N c' e' g' a' → Q (exOf o) a' c'.w) → cd.wp P Q a c.w
  | .skip, cd, Q, c, e, e', g, g', a, o, hb, hn, S, h, hQ => by
    cases cd <;> simp only [codeB, Bool.false_eq_true] at hb
    simp only [codeE] at h; cases h
    exact wp_skip (hQ c a (Evo.refl c) S)
  | .reg d aos, cd, Q, c, e, e', g, g', a, o, hb, hn, S, h, hQ => by
    cases cd <;> simp only [codeB, Bool.false_eq_true] at hb
    simp only [Bool.and_eq_true, beq_iff_eq] at hb
    obtain ⟨rfl, hb⟩ := hb
    simp only [codeE] at h
    split at h
    · rename_i e1 g1 h1
      cases h
      exact region_wp hcall hk hm hb hn S h1 hQ
    · cases h
  | .seq x y, cd, Q, c, e, e', g, g', a, o, hb, hn, S, h, hQ => by
    cases cd <;> simp only [codeB, Bool.false_eq_true] at hb
    simp only [Bool.and_eq_true] at hb
    simp only [codeE] at h
    refine wp_seq ?_
    split at h
    · rename_i e1 g1 h1
      exact code_wp hcall hk hm k x hb.1 hn S h1 fun c1 a1 E1 S1 => code_wp hcall hk hm k y hb.2 (E1.num.trans hn) S1 h fun c' a' E' S' => hQ c' a' (E1.trans E') S'
    · rename_i hne
      refine code_wp hcall hk hm k x hb.1 hn S h fun c1 a1 E1 S1 => ?_
      have := hQ c1 a1 E1 S1
      cases o with
      | nrm => exact (hne _ _ h).elim
      | ext n => exact this
      | ret => exact this
  | .cond x t f, cd, Q, c, e, e', g, g', a, o, hb, hn, S, h, hQ => by
    cases cd <;> simp only [codeB, Bool.false_eq_true] at hb
    simp only [Bool.and_eq_true] at hb
    obtain ⟨⟨h1, h2⟩, h3⟩ := hb
    have hr := opdB_rep S.env (hn ▸ h1)
    simp only [codeE] at h
    split at h
    · rename_i b hx
      rw [hx] at hr
      refine wp_cond (t := b) (by
        generalize a.eval _ = u at hr
        cases hr; rfl) ?_
      cases b with
      | true =>
        simp only [if_true] at h ⊢
        exact code_wp hcall hk hm k t h2 hn S h hQ
      | false =>
        simp only [Bool.false_eq_true, if_false] at h ⊢
        exact code_wp hcall hk hm k f h3 hn S h hQ
    · cases h
  | .blk i x, cd, Q, c, e, e', g, g', a, o, hb, hn, S, h, hQ => by
    cases cd <;> simp only [codeB, Bool.false_eq_true] at hb
    simp only [Bool.and_eq_true, beq_iff_eq] at hb
    obtain ⟨rfl, hb⟩ := hb
    simp only [codeE] at h
    refine wp_block ?_
    split at h
    · rename_i n e1 g1 h1
      cases h
      refine code_wp hcall hk hm k x hb hn S h1 fun c1 a1 E1 S1 => ?_
      have := hQ c1 a1 E1 S1
      show if _ then _ else _
      split
      · rename_i hni; rw [if_pos hni] at this; exact this
      · rename_i hni; rw [if_neg hni] at this; exact this
    · rename_i hne
      refine code_wp hcall hk hm k x hb hn S h fun c1 a1 E1 S1 => ?_
      have := hQ c1 a1 E1 S1
      cases o with
      | nrm => exact this
      | ext n => exact (hne _ _ _ h).elim
      | ret => exact this
  | .scp x, cd, Q, c, e, e', g, g', a, o, hb, hn, S, h, hQ => by
    cases cd <;> simp only [codeB, Bool.false_eq_true] at hb
    simp only [codeE] at h
    refine wp_scope_straight (code_wp hcall hk hm k x hb hn S h fun c1 a1 E1 S1 => ?_)
    have := hQ c1 a1 E1 S1
    cases o <;> exact this
  | .lab, cd, Q, c, e, e', g, g', a, o, hb, hn, S, h, hQ => by
    cases cd <;> simp only [codeB, Bool.false_eq_true] at hb
    simp only [codeE] at h; cases h
    exact wp_label (hQ c a (Evo.refl c) S)
  | .tmp x, cd, Q, c, e, e', g, g', a, o, hb, hn, S, h, hQ => by
    have hb : codeB P num N cd x = true := by cases cd <;> simpa only [codeB] using hb
    simp only [codeE] at h
    split at h
    · rename_i o2 e2 g2 h1
      split at h
      · rename_i hk2
        cases h
        have E := Evo.lock c (List.range g.nx)
        refine code_wp hcall hk hm k x (c := c.lock (List.range g.nx)) hb (E.num.trans hn) (S.lock _) h1 fun c1 a1 E1 S1 => ?_
        have hk3 : tmpOk c.hp c1.hp g.nx = true := by rw [S.hp, S1.hp]; exact hk2
        have hQ1 := hQ (c1.unl g.hp) a1 (by have := Evo.unl S.ok E1 hk3; rwa [S.hp] at this) (St.unl S.ok S.hp E1 S1 hk2 (codeE_keep hk k x h1).1)
        exact hQ1
      · cases h
    · cases h
  | .imm t x, cd, Q, c, e, e', g, g', a, o, hb, hn, S, h, hQ => by
    have hb : codeB P num N cd x = true := by cases cd <;> simpa only [codeB] using hb
    simp only [codeE] at h
    split at h
    · rename_i v hv
      have E := Evo.lock c (vis g.hp depth (e t))
      have S1 := S.lock (vis g.hp depth (e t))
      have hr := frz_rep S.ok (hp := g.hp) (ids := vis g.hp depth (e t)) (fun i b hib => by rw [S.hp]; exact hib) depth hv (fun _ h => h) (S.env t)
      have S2 : St N (c.lock (vis g.hp depth (e t))) (upd e t v) ⟨Ab.lock g.hp (vis g.hp depth (e t)), g.nx⟩ a := by
        refine ⟨fun t' => ?_, S1.ok, S1.hp, S1.size, S1.defers⟩
        unfold upd
        split
        · rename_i ht; subst ht; exact hr.up
        · exact S1.env t'
      exact code_wp hcall hk hm k x (c := c.lock (vis g.hp depth (e t))) hb (E.num.trans hn) S2 h fun c1 a1 E1 S1 => hQ c1 a1 (E.trans E1) S1
    · cases h
  | .lckS t x, cd, Q, c, e, e', g, g', a, o, hb, hn, S, h, hQ => by
    have hb : codeB P num N cd x = true := by cases cd <;> simpa only [codeB] using hb
    simp only [codeE] at h
    have E := Evo.lock c (ids1 (e t))
    exact code_wp hcall hk hm k x (c := c.lock (ids1 (e t))) hb (E.num.trans hn) (S.lock _) h fun c1 a1 E1 S1 => hQ c1 a1 (E.trans E1) S1
  | .lck t x, cd, Q, c, e, e', g, g', a, o, hb, hn, S, h, hQ => by
    have hb : codeB P num N cd x = true := by cases cd <;> simpa only [codeB] using hb
    simp only [codeE] at h
    have E := Evo.lock c (vis g.hp depth (e t))
    exact code_wp hcall hk hm k x (c := c.lock (vis g.hp depth (e t))) hb (E.num.trans hn) (S.lock _) h fun c1 a1 E1 S1 => hQ c1 a1 (E.trans E1) S1
  | .loop x, cd, Q, c, e, e', g, g', a, o, hb, hn, S, h, hQ => by
    cases cd <;> simp only [codeB, Bool.false_eq_true] at hb
    simp only [codeE] at h
    exact wp_loop_rounds k (rounds_wp (fun hn S h hQ => code_wp hcall hk hm k x hb hn S h hQ) k hn S h hQ (iter_out k h))
  | .ext i, cd, Q, c, e, e', g, g', a, o, hb, hn, S, h, hQ => by
    cases cd <;> simp only [codeB, Bool.false_eq_true] at hb
    simp only [beq_iff_eq] at hb
    subst hb
    simp only [codeE] at h; cases h
    exact wp_exit (hQ c a (Evo.refl c) S)
  | .ret, cd, Q, c, e, e', g, g', a, o, hb, hn, S, h, hQ => by
    cases cd <;> simp only [codeB, Bool.false_eq_true] at hb
    simp only [codeE] at h; cases h
    exact wp_ret (hQ c a (Evo.refl c) S)
end
def resB (P : Program) : List ResultVar → List ARes → Bool
  | [], [] => true
  | .tmp t :: rs, .t t' :: rs' => (t == t') && resB P rs rs'
  | .cell a t :: rs, .cell a' agg :: rs' => (a == a') && aggB P t agg && resB P rs rs'
  | _, _ => false
def funB (P : Program) (nm : Nat → Nat) (fn : Func) (A : AFun) : Bool :=
  (match fn.body with
   | some cd => codeB P nm fn.ntmps cd A.body
   | none => false) && resB P fn.results.toList A.res && !(fn.name == "runtime.NumGoroutine")
def resVar (tmps : Array Value) : ResultVar → Sem Value
  | .tmp t => pure (tmps.getD t undef)
  | .cell a t => do loadVar t (← asAddr (tmps.getD a undef))
theorem results_eq (fn : Func) (tmps : Array Value) : results fn tmps = (fn.results.mapM (resVar tmps) >>= fun vs => pure (if h : vs.size = 1 then vs[0] else .tuple vs)) := by
  unfold results
  congr 1
theorem resB_ok {P : Program} {c : Cx} {e : Env} {a : Act} {g : G} (he : EnvOk c e a) (K : Ok c g.nx) (hg : c.hp = g.hp) : ∀ {rs : List ResultVar} {asx : List ARes} {vs : List AV}, resB P rs asx = true → resAll e g asx = some vs → ∃ us : List Value, (rs.mapM (resVar a.tmps)).run P c.w = .ok us c.w ∧ Reps c true vs us
  | [], [], vs, _, h => by
    simp only [resAll] at h; cases h
    exact ⟨[], rfl, Reps.nil⟩
  | .tmp t :: rs, .t t' :: asx, vs, hb, h => by
    simp only [resB, Bool.and_eq_true, beq_iff_eq] at hb
    obtain ⟨rfl, hb⟩ := hb
    simp only [resAll, resOne] at h
    split at h
    · rename_i v vs' h1 h2
      cases h1; cases h
      obtain ⟨us, hu, hr⟩ := resB_ok he K hg hb h2
      refine ⟨a.tmps.getD t undef :: us, ?_, Reps.cons (he t) hr⟩
      rw [List.mapM_cons, Sem.run_bind]
      show Result.andThen (.ok (a.tmps.getD t undef) c.w) _ = _
      rw [Result.andThen_ok, Sem.run_bind, hu]
      rfl
    · cases h
  | .cell q t :: rs, .cell q' agg :: asx, vs, hb, h => by
    simp only [resB, Bool.and_eq_true, beq_iff_eq] at hb
    obtain ⟨⟨rfl, hagg⟩, hb⟩ := hb
    simp only [resAll] at h
    split at h
    · rename_i v vs' h1 h2
      cases h
      obtain ⟨us, hu, hr⟩ := resB_ok he K hg hb h2
      simp only [resOne] at h1
      split at h1
      · rename_i b off hq
        split at h1
        · rename_i cs ro hbk
          have hrq := he q
          rw [hq] at hrq
          have hv := rep_mp hrq
          have hbk' : c.hp b = some (.cells cs ro) := by rw [hg]; exact hbk
          obtain ⟨_, ws, rs, ty, g2, g3, _⟩ := K.cells b cs ro hbk'
          obtain ⟨val, hrun, hval⟩ := run_loadVar_ab (P := P) (w := c.w) hagg g3 h1 (ad := ⟨(c.loc b).1, off, none⟩) (fun j u hu => by rw [add_mk, cell_of_heap g2, List.getElem?_toArray, List.getElem?_append_left (List.getElem?_eq_some_iff.1 hu).1]; exact hu)
          refine ⟨val :: us, ?_, Reps.cons hval hr⟩
          have hone : (resVar a.tmps (.cell q t)).run P c.w = .ok val c.w := by
            simp only [resVar, hv]
            exact hrun
          rw [List.mapM_cons, Sem.run_bind, hone, Result.andThen_ok, Sem.run_bind, hu]
          rfl
        · cases h1
      · cases h1
    · cases h
  | [], _ :: _, _, h, _ => by simp [resB] at h
  | .tmp _ :: _, [], _, h, _ => by simp [resB] at h
  | .tmp _ :: _, .cell _ _ :: _, _, h, _ => by simp [resB] at h
  | .cell _ _ :: _, [], _, h, _ => by simp [resB] at h
  | .cell _ _ :: _, .t _ :: _, _, h, _ => by simp [resB] at h
theorem res_ok {P : Program} {c : Cx} {e : Env} {a : Act} {g : G} (he : EnvOk c e a) (K : Ok c g.nx) (hg : c.hp = g.hp) {fn : Func} {asx : List ARes} {v : AV} (hb : resB P fn.results.toList asx = true) (h : resE asx e g = some v) : ∃ u, (results fn a.tmps).run P c.w = .ok u c.w ∧ Rep c true v u := by
  unfold resE at h
  have key : ∀ vs, resAll e g asx = some vs → ∃ us : List Value, (results fn a.tmps).run P c.w = .ok (if h : us.toArray.size = 1 then us.toArray[0] else .tuple us.toArray) c.w ∧ Reps c true vs us := by
    intro vs hv
    obtain ⟨us, hu, hr⟩ := resB_ok (P := P) he K hg hb hv
    refine ⟨us, ?_, hr⟩
    rw [results_eq, Array.mapM_eq_mapM_toList, Sem.run_bind, Sem.run_map, hu]
    rfl
  split at h
  · rename_i v' hv
    cases h
    obtain ⟨us, hu, hr⟩ := key _ hv
    obtain ⟨u, us', rfl, h1, h2⟩ := Reps.cons_inv hr
    have := Reps.nil_inv h2
    subst this
    exact ⟨u, by simpa using hu, h1⟩
  · rename_i vs hne hv
    cases h
    obtain ⟨us, hu, hr⟩ := key _ hv
    refine ⟨_, hu, ?_⟩
    rw [dif_neg]
    · exact .tup us hr.1 hr.2
    · intro hs
      have hl : vs.length = 1 := by rw [hr.1]; simpa using hs
      match vs, hl, hne with
      | [v], _, hne => exact hne v rfl
  · cases h
theorem argEnv_ok {c : Cx} {asx : List AV} {vs : List Value} (h : Reps c true asx vs) (n : Nat) : EnvOk c (argEnv asx) { tmps := vs.toArray ++ Array.replicate n undef, defers := [] } := by
  intro t
  unfold argEnv
  rw [List.getD_eq_getElem?_getD]
  show Rep c true _ ((vs.toArray ++ Array.replicate n undef).getD t undef)
  rw [Array.getD_eq_getD_getElem?, Array.getElem?_append]
  by_cases ht : t < vs.length
  · rw [if_pos (by simpa using ht)]
    have ht' : t < asx.length := by rw [h.1]; exact ht
    rw [List.getElem?_eq_getElem ht', List.getElem?_toArray, List.getElem?_eq_getElem ht]
    exact h.2 t _ _ (List.getElem?_eq_getElem ht') (List.getElem?_eq_getElem ht)
  · rw [if_neg (by simpa using ht), List.getElem?_eq_none (by have := h.1; omega)]
    rw [Array.getElem?_replicate]
    split <;> exact Rep.undef0
def Table (P : Program) (num : Nat → Nat) (F : Funs) : Prop := ∀ f A, F f = some A → ∃ fn, P.funcs[num f]? = some fn ∧ funB P num fn A = true
theorem callE_ok {P : Program} {num : Nat → Nat} {F : Funs} (hT : Table P num F) (hm : P.follows .mixedOrders = true) : ∀ k, CallKeep (callE F k) ∧ CallOk P num (callE F k)
  | 0 => ⟨fun f asx g v g' h => by simp [callE] at h, fun f asx g v g' h => by simp [callE] at h⟩
  | k + 1 => by
    obtain ⟨hk, hcall⟩ := callE_ok hT hm k
    have keep : CallKeep (callE F (k + 1)) := by
      intro f asx g v g' h
      simp only [callE] at h
      split at h
      · cases h
      · rename_i fn hF
        split at h
        · rename_i e1 g1 h1
          have := codeE_keep hk k _ h1
          cases hr : resE fn.res e1 g1 with
          | none => rw [hr] at h; cases h
          | some x => rw [hr] at h; cases h; exact this
        · rename_i e1 g1 h1
          have := codeE_keep hk k _ h1
          cases hr : resE fn.res e1 g1 with
          | none => rw [hr] at h; cases h
          | some x => rw [hr] at h; cases h; exact this
        · cases h
    refine ⟨keep, fun f asx g v g' h => ⟨keep f asx g v g' h, fun c vargs hn hg K hr => ?_⟩⟩
    simp only [callE] at h
    split at h
    · cases h
    · rename_i A hF
      obtain ⟨fn, hfn, hb⟩ := hT f A hF
      simp only [funB, Bool.and_eq_true, Bool.not_eq_true'] at hb
      obtain ⟨⟨hb1, hb2⟩, hb3⟩ := hb
      split at hb1
      · rename_i cd hbody
        refine ⟨?_, fn, hfn, by rw [hbody]; rfl, hb3⟩
        have S : St fn.ntmps c (argEnv asx) g { tmps := vargs.toArray ++ Array.replicate (fn.ntmps - vargs.toArray.size) undef, defers := [] } :=
          ⟨argEnv_ok hr _, K, hg, by simp; omega, rfl⟩
        have fin : ∀ o e1 g1, (o = .nrm ∨ o = .ret) → codeE (callE F k) k A.body (argEnv asx) g = some (o, e1, g1) → (resE A.res e1 g1).map (·, g1) = some (v, g') → Calls P (num f) vargs.toArray c.w (fun en w' => ∃ val c', en = .returned val ∧ c'.w = w' ∧ Evo c c' ∧ Ok c' g'.nx ∧ c'.hp = g'.hp ∧ Rep c' true v val) := by
          intro o e1 g1 ho h1 h2
          cases hre : resE A.res e1 g1 with
          | none => rw [hre] at h2; cases h2
          | some x =>
            rw [hre] at h2; cases h2
            refine calls_of_wp hfn hbody (code_wp hcall hk hm k A.body hb1 hn S h1 fun c' a' E S' => ?_)
            obtain ⟨u, hu, hru⟩ := res_ok (P := P) S'.env S'.ok S'.hp hb2 hre
            have : a'.defers = [] ∧ ∃ v', (results fn a'.tmps).run P c'.w = .ok v' c'.w ∧ (fun (en : Ending) (w' : World) => ∃ val c'', en = .returned val ∧ c''.w = w' ∧ Evo c c'' ∧ Ok c'' g'.nx ∧ c''.hp = g'.hp ∧ Rep c'' true v val) (.returned v') c'.w :=
              ⟨S'.defers, u, hu, u, c', rfl, rfl, E, S'.ok, S'.hp, hru⟩
            rcases ho with rfl | rfl
            · exact this
            · exact this
        split at h
        · rename_i e1 g1 h1; exact fin .nrm e1 g1 (.inl rfl) h1 h
        · rename_i e1 g1 h1; exact fin .ret e1 g1 (.inr rfl) h1 h
        · cases h
      · cases hb1
end Go.Ab
end
section
namespace Go.Ab
def A_eco_Inner : AFun := { res := [.t 4], body := (.seq (.reg false [{ dst := some 2, op := .box (.t 0) },
  { dst := some 4, op := .mv (.c (.nilp)) }])
 (.seq (.reg false [{ dst := some 5, op := .ld (some 8) (.t 2) },
  { dst := some 6, op := .mv (.t 1) },
  { dst := some 7, op := .call .pure (.c (.fn 57 [] [])) [.t 5, .t 6, .c (.fn 58 [] [])] },
  { dst := some 4, op := .mv (.t 7) }])
 .ret)) }
def A_eco_Outer : AFun := { res := [.t 4], body := (.seq (.reg false [{ dst := some 2, op := .box (.t 0) },
  { dst := some 4, op := .mv (.c (.nilp)) }])
 (.seq (.reg false [{ dst := some 5, op := .ld (some 8) (.t 2) },
  { dst := some 6, op := .mv (.t 1) },
  { dst := some 7, op := .call .pure (.c (.fn 57 [] [])) [.t 5, .t 6, .c (.fn 59 [] [])] },
  { dst := some 4, op := .mv (.t 7) }])
 .ret)) }
def A_eco_Loc : AFun := { res := [.t 2], body := (.seq (.reg false [{ dst := some 1, op := .box (.t 0) },
  { dst := some 2, op := .mv (.c (.nilp)) }])
 (.seq (.reg true [{ dst := some 3, op := .ld (some 8) (.t 1), pre := [] },
  { dst := some 4, op := .ld (some 8) (.t 1), pre := [] },
  { dst := some 5, op := .call .pure (.c (.fn 60 [] [])) [.t 4], pre := [] },
  { dst := some 6, op := .call .pure (.c (.fn 57 [] [])) [.t 3, .t 5, .c (.fn 61 [] [])], pre := [] },
  { dst := some 2, op := .mv (.t 6) }])
 .ret)) }
def A_eco_Eco : AFun := { res := [.t 2], body := (.seq (.reg false [{ dst := some 1, op := .box (.t 0) },
  { dst := some 2, op := .mv (.c (.nilp)) }])
 (.seq (.reg true [{ dst := some 3, op := .ld (some 8) (.t 1), pre := [] },
  { dst := some 4, op := .call .pure (.c (.fn 48 [] [])) [.t 3], pre := [] },
  { dst := some 5, op := .ld (some 8) (.t 1), pre := [] },
  { dst := some 6, op := .call .pure (.c (.fn 49 [] [])) [.t 5], pre := [] },
  { dst := some 7, op := .call .pure (.c (.fn 24 [] [])) [.t 4, .t 6], pre := [] },
  { dst := some 8, op := .ld (some 8) (.t 1), pre := [] },
  { dst := some 9, op := .call .pure (.c (.fn 50 [] [])) [.t 8], pre := [] },
  { dst := some 10, op := .call .pure (.c (.fn 24 [] [])) [.t 7, .t 9], pre := [] },
  { dst := some 11, op := .call .pure (.c (.fn 12 [] [])) [.t 10], pre := [] },
  { dst := some 2, op := .mv (.t 11) }])
 .ret)) }
def A_eco_Rf : AFun := { res := [.t 2], body := (.seq (.reg false [{ dst := some 1, op := .box (.t 0) },
  { dst := some 2, op := .mv (.c (.nilp)) }])
 (.seq (.reg false [{ dst := some 3, op := .ld (some 8) (.t 1) },
  { dst := some 4, op := .call .pure (.c (.fn 80 [] [])) [.t 3, .c (.s ⟨#[114, 102]⟩)] },
  { dst := some 2, op := .mv (.t 4) }])
 .ret)) }
def A_eco_Co : AFun := { res := [.t 2], body := (.seq (.reg false [{ dst := some 1, op := .box (.t 0) },
  { dst := some 2, op := .mv (.c (.nilp)) }])
 (.seq (.reg false [{ dst := some 3, op := .ld (some 8) (.t 1) },
  { dst := some 4, op := .call .pure (.c (.fn 80 [] [])) [.t 3, .c (.s ⟨#[99, 111]⟩)] },
  { dst := some 2, op := .mv (.t 4) }])
 .ret)) }
def A_eco_Fr : AFun := { res := [.t 2], body := (.seq (.reg false [{ dst := some 1, op := .box (.t 0) },
  { dst := some 2, op := .mv (.c (.nilp)) }])
 (.seq (.reg false [{ dst := some 3, op := .ld (some 8) (.t 1) },
  { dst := some 4, op := .call .pure (.c (.fn 80 [] [])) [.t 3, .c (.s ⟨#[102, 114]⟩)] },
  { dst := some 2, op := .mv (.t 4) }])
 .ret)) }
def A_eco_some : AFun := { res := [.t 6], body := (.seq (.reg false [{ dst := some 3, op := .box (.t 0) },
  { dst := some 6, op := .mv (.c (.nilp)) }])
 (.seq (.reg false [{ dst := some 7, op := .mv (.c (.sl [] 0 .rig)) }])
 (.seq (.seq (.reg false [{ dst := some 10, op := .mv (.t 1) },
  { dst := some 11, op := .call .pure (.c (.fn 15 [] [])) [.t 10] },
  { dst := some 12, op := .len (.t 11) },
  { dst := some 13, op := .mv (.c (.i .i64 0)) }])
 (.blk 0 (.loop (.seq (.reg false [{ dst := some 14, op := .bin .lss (.t 13) (.t 12) }])
 (.seq (.cond (.t 14) .skip
 (.ext 0))
 (.seq (.blk 1 (.seq (.reg false [{ dst := some 15, op := .ia 2 (.t 11) (.t 13) },
  { dst := some 16, op := .ld (some 2) (.t 15) },
  { dst := some 9, op := .new ([.i .i64 0, .i .i64 0]) },
  { dst := none, op := .st 2 (.t 9) (.t 16) }])
 (.seq (.reg true [{ dst := some 17, op := .fa 0 (.t 9) },
  { dst := some 18, op := .ld none (.t 17), pre := [] },
  { dst := some 19, op := .fa 1 (.t 3) },
  { dst := some 20, op := .ld none (.t 19), pre := [] },
  { dst := some 21, op := .len (.t 20) },
  { dst := some 22, op := .bin .lss (.t 18) (.t 21) },
  { dst := some 23, op := .mv (.t 22) },
  { dst := some 24, op := .fa 1 (.t 9), grd := some (23, true) },
  { dst := some 25, op := .ld none (.t 24), grd := some (23, true), pre := [] },
  { dst := some 26, op := .fa 1 (.t 3), grd := some (23, true) },
  { dst := some 27, op := .ld none (.t 26), grd := some (23, true), pre := [] },
  { dst := some 28, op := .len (.t 27), grd := some (23, true) },
  { dst := some 29, op := .bin .lss (.t 25) (.t 28), grd := some (23, true) },
  { dst := some 30, op := .pick (.t 23) (.t 29) (.c (.b false)) },
  { dst := some 31, op := .mv (.t 30) },
  { dst := some 32, op := .mv (.t 2), grd := some (31, true) },
  { dst := some 33, op := .fa 1 (.t 3), grd := some (31, true) },
  { dst := some 34, op := .ld none (.t 33), grd := some (31, true), pre := [] },
  { dst := some 35, op := .fa 0 (.t 9), grd := some (31, true) },
  { dst := some 36, op := .ld none (.t 35), grd := some (31, true), pre := [] },
  { dst := some 37, op := .ia 6 (.t 34) (.t 36), grd := some (31, true) },
  { dst := some 38, op := .ld (some 6) (.t 37), grd := some (31, true), pre := [] },
  { dst := some 39, op := .fa 1 (.t 3), grd := some (31, true) },
  { dst := some 40, op := .ld none (.t 39), grd := some (31, true), pre := [] },
  { dst := some 41, op := .fa 1 (.t 9), grd := some (31, true) },
  { dst := some 42, op := .ld none (.t 41), grd := some (31, true), pre := [] },
  { dst := some 43, op := .ia 6 (.t 40) (.t 42), grd := some (31, true) },
  { dst := some 44, op := .ld (some 6) (.t 43), grd := some (31, true), pre := [] },
  { dst := some 45, op := .call .pure (.t 32) [.t 38, .t 44], grd := some (31, true), pre := [] },
  { dst := some 46, op := .pick (.t 31) (.t 45) (.c (.b false)) }])
 (.cond (.t 46) (.reg false [{ dst := some 47, op := .mv (.t 7) },
  { dst := some 48, op := .ld (some 2) (.t 9) },
  { dst := some 49, op := .bsl true 1 ([.i .i64 0, .i .i64 0]) [(0, 2, .t 48)] },
  { dst := some 50, op := .app 2 16 (.t 47) (.t 49) },
  { dst := some 7, op := .mv (.t 50) }])
 .skip))))
 (.reg false [{ dst := some 51, op := .bin .add (.t 13) (.c (.i .i64 1)) },
  { dst := some 13, op := .mv (.t 51) }])))))))
 (.seq (.reg false [{ dst := some 52, op := .ld (some 8) (.t 3) },
  { dst := some 53, op := .mv (.t 7) },
  { dst := some 54, op := .call .pure (.c (.fn 81 [] [])) [.t 52, .t 53] },
  { dst := some 6, op := .mv (.t 54) }])
 .ret)))) }
def A_eco_Inner_1 : AFun := { res := [.t 4], body := (.seq (.reg false [{ dst := some 2, op := .box (.t 0) },
  { dst := some 3, op := .box (.t 1) },
  { dst := some 4, op := .mv (.c (.b false)) }])
 (.seq (.reg false [{ dst := some 5, op := .fa 0 (.t 2) },
  { dst := some 6, op := .ld none (.t 5) },
  { dst := some 7, op := .fa 0 (.t 3) },
  { dst := some 8, op := .ld none (.t 7) },
  { dst := some 9, op := .bin .eql (.t 6) (.t 8) },
  { dst := some 4, op := .mv (.t 9) }])
 .ret)) }
def A_eco_Outer_1 : AFun := { res := [.t 4], body := (.seq (.reg false [{ dst := some 2, op := .box (.t 0) },
  { dst := some 3, op := .box (.t 1) },
  { dst := some 4, op := .mv (.c (.b false)) }])
 (.seq (.reg false [{ dst := some 5, op := .fa 0 (.t 2) },
  { dst := some 6, op := .ld none (.t 5) },
  { dst := some 7, op := .fa 0 (.t 3) },
  { dst := some 8, op := .ld none (.t 7) },
  { dst := some 9, op := .bin .neq (.t 6) (.t 8) },
  { dst := some 4, op := .mv (.t 9) }])
 .ret)) }
def A_eco_Loc_1 : AFun := { res := [.t 4], body := (.seq (.reg false [{ dst := some 2, op := .box (.t 0) },
  { dst := some 3, op := .box (.t 1) },
  { dst := some 4, op := .mv (.c (.b false)) }])
 (.seq (.reg false [{ dst := some 5, op := .fa 1 (.t 2) },
  { dst := some 6, op := .ld none (.t 5) },
  { dst := some 7, op := .bin .neq (.t 6) (.c (.i .i64 3)) },
  { dst := some 8, op := .mv (.t 7) },
  { dst := some 9, op := .fa 1 (.t 3), grd := some (8, true) },
  { dst := some 10, op := .ld none (.t 9), grd := some (8, true) },
  { dst := some 11, op := .bin .neq (.t 10) (.c (.i .i64 3)), grd := some (8, true) },
  { dst := some 12, op := .pick (.t 8) (.t 11) (.c (.b false)) },
  { dst := some 13, op := .mv (.t 12) },
  { dst := some 14, op := .fa 3 (.t 2), grd := some (13, true) },
  { dst := some 15, op := .ld none (.t 14), grd := some (13, true) },
  { dst := some 16, op := .fa 3 (.t 3), grd := some (13, true) },
  { dst := some 17, op := .ld none (.t 16), grd := some (13, true) },
  { dst := some 18, op := .bin .eql (.t 15) (.t 17), grd := some (13, true) },
  { dst := some 19, op := .pick (.t 13) (.t 18) (.c (.b false)) },
  { dst := some 4, op := .mv (.t 19) }])
 .ret)) }
def A_eco_pairs : AFun := { res := [.t 4], body := (.seq (.reg false [{ dst := some 2, op := .box (.t 0) },
  { dst := some 4, op := .mv (.c (.nilp)) }])
 (.seq (.reg false [{ dst := some 5, op := .new ([.sl [] 0 .rig]) }])
 (.seq (.reg false [{ dst := some 12, op := .mkfn 92 [] [.t 5] },
  { dst := some 6, op := .new ([.nilf]) },
  { dst := none, op := .st 1 (.t 6) (.t 12) }])
 (.seq (.reg false [{ dst := some 13, op := .mkfn 93 [] [.t 2, .t 6] },
  { dst := some 7, op := .new ([.nilf]) },
  { dst := none, op := .st 1 (.t 7) (.t 13) }])
 (.seq (.reg false [{ dst := some 14, op := .mkmap },
  { dst := some 15, op := .mkfn 94 [] [.t 6] },
  { dst := none, op := .mput (.t 14) (.c (.s ⟨#[114, 102]⟩)) (.t 15) },
  { dst := some 16, op := .mkfn 95 [] [.t 7] },
  { dst := none, op := .mput (.t 14) (.c (.s ⟨#[99, 111]⟩)) (.t 16) },
  { dst := some 17, op := .mkfn 96 [] [.t 7] },
  { dst := none, op := .mput (.t 14) (.c (.s ⟨#[102, 114]⟩)) (.t 17) },
  { dst := some 18, op := .mv (.t 14) },
  { dst := some 8, op := .mv (.t 18) }])
 (.seq (.seq (.reg false [{ dst := some 19, op := .fa 1 (.t 2) },
  { dst := some 20, op := .ld none (.t 19) },
  { dst := some 21, op := .len (.t 20) },
  { dst := some 22, op := .mv (.c (.i .i64 0)) }])
 (.blk 0 (.loop (.seq (.reg false [{ dst := some 23, op := .bin .lss (.t 22) (.t 21) }])
 (.seq (.cond (.t 23) .skip
 (.ext 0))
 (.seq (.blk 1 (.seq (.reg false [{ dst := some 24, op := .mv (.t 22) },
  { dst := some 25, op := .ia 6 (.t 20) (.t 22) },
  { dst := some 26, op := .ld (some 6) (.t 25) },
  { dst := some 10, op := .new (List.replicate 5 (.i .i64 0) ++ [.b false]) },
  { dst := some 9, op := .mv (.t 24) },
  { dst := none, op := .st 6 (.t 10) (.t 26) }])
 (.seq (.reg false [{ dst := some 11, op := .mv (.c (.i .i64 (-1))) }])
 (.seq (.seq (.reg false [{ dst := some 27, op := .mv (.t 9) },
  { dst := some 28, op := .fa 2 (.t 2) },
  { dst := some 29, op := .ld none (.t 28) },
  { dst := some 30, op := .len (.t 29) },
  { dst := some 31, op := .bin .lss (.t 27) (.t 30) }])
 (.cond (.t 31) (.reg false [{ dst := some 32, op := .fa 2 (.t 2) },
  { dst := some 33, op := .ld none (.t 32) },
  { dst := some 34, op := .mv (.t 9) },
  { dst := some 35, op := .ia 1 (.t 33) (.t 34) },
  { dst := some 36, op := .ld none (.t 35) },
  { dst := some 11, op := .mv (.t 36) }])
 .skip))
 (.reg false [{ dst := some 37, op := .mv (.t 8) },
  { dst := some 38, op := .mv (.t 1) },
  { dst := some 39, op := .mget (.t 37) (.t 38) },
  { dst := some 40, op := .mv (.t 9) },
  { dst := some 41, op := .mv (.t 11) },
  { dst := some 42, op := .ld (some 6) (.t 10) },
  { dst := some 43, op := .call .raw (.t 39) [.t 40, .t 41, .t 42] }])))))
 (.reg false [{ dst := some 44, op := .bin .add (.t 22) (.c (.i .i64 1)) },
  { dst := some 22, op := .mv (.t 44) }])))))))
 (.seq (.reg false [{ dst := some 45, op := .ld (some 8) (.t 2) },
  { dst := some 46, op := .ld none (.t 5) },
  { dst := some 47, op := .call .pure (.c (.fn 81 [] [])) [.t 45, .t 46] },
  { dst := some 4, op := .mv (.t 47) }])
 .ret))))))) }
def A_eco_pairs_1 : AFun := { res := [], body := (.reg false [{ dst := some 5, op := .ld none (.t 2) },
  { dst := some 6, op := .mv (.t 0) },
  { dst := some 7, op := .mv (.t 1) },
  { dst := some 8, op := .build ([.i .i64 0, .i .i64 0]) [(0, 1, .t 6), (1, 1, .t 7)] },
  { dst := some 9, op := .bsl true 1 ([.i .i64 0, .i .i64 0]) [(0, 2, .t 8)] },
  { dst := some 10, op := .app 2 16 (.t 5) (.t 9) },
  { dst := none, op := .st 1 (.t 2) (.t 10) }]) }
def A_eco_pairs_2 : AFun := { res := [], body := (.seq (.reg false [{ dst := some 11, op := .fa 3 (.t 2) },
  { dst := some 12, op := .ld none (.t 11) },
  { dst := some 13, op := .len (.t 12) },
  { dst := some 14, op := .mv (.c (.i .i64 0)) }])
 (.blk 0 (.loop (.seq (.reg false [{ dst := some 15, op := .bin .lss (.t 14) (.t 13) }])
 (.seq (.cond (.t 15) .skip
 (.ext 0))
 (.seq (.blk 1 (.seq (.reg false [{ dst := some 16, op := .ia 1 (.t 12) (.t 14) },
  { dst := some 17, op := .ld none (.t 16) },
  { dst := some 7, op := .mv (.t 17) }])
 (.seq (.reg false [{ dst := some 8, op := .mv (.c (.b false)) }])
 (.seq (.reg false [{ dst := some 18, op := .mv (.t 7) },
  { dst := some 19, op := .len (.t 18) },
  { dst := some 20, op := .mv (.c (.i .i64 0)) }])
 (.blk 2 (.loop (.seq (.reg false [{ dst := some 21, op := .bin .lss (.t 20) (.t 19) }])
 (.seq (.cond (.t 21) .skip
 (.ext 2))
 (.seq (.blk 3 (.seq (.reg false [{ dst := some 22, op := .ia 1 (.t 18) (.t 20) },
  { dst := some 23, op := .ld none (.t 22) },
  { dst := some 10, op := .mv (.t 23) }])
 (.seq (.seq (.reg false [{ dst := some 24, op := .mv (.t 8) }])
 (.cond (.t 24) (.reg false [{ dst := some 25, op := .ld none (.t 3) },
  { dst := some 26, op := .mv (.t 0) },
  { dst := some 27, op := .mv (.t 10) },
  { dst := some 28, op := .call .raw (.t 25) [.t 26, .t 27] }])
 .skip))
 (.reg false [{ dst := some 29, op := .mv (.t 8) },
  { dst := some 30, op := .mv (.t 29) },
  { dst := some 31, op := .mv (.t 10), grd := some (30, false) },
  { dst := some 32, op := .mv (.t 1), grd := some (30, false) },
  { dst := some 33, op := .bin .eql (.t 31) (.t 32), grd := some (30, false) },
  { dst := some 34, op := .pick (.t 30) (.c (.b true)) (.t 33) },
  { dst := some 8, op := .mv (.t 34) }]))))
 (.reg false [{ dst := some 35, op := .bin .add (.t 20) (.c (.i .i64 1)) },
  { dst := some 20, op := .mv (.t 35) }]))))))))))
 (.reg false [{ dst := some 36, op := .bin .add (.t 14) (.c (.i .i64 1)) },
  { dst := some 14, op := .mv (.t 36) }]))))))) }
def A_eco_pairs_3 : AFun := { res := [], body := (.seq (.reg false [{ dst := some 6, op := .box (.t 2) }])
 (.seq (.reg false [{ dst := some 7, op := .fa 1 (.t 6) },
  { dst := some 8, op := .ld none (.t 7) },
  { dst := some 9, op := .bin .eql (.t 8) (.c (.i .i64 1)) }])
 (.cond (.t 9) (.reg false [{ dst := some 10, op := .ld none (.t 3) },
  { dst := some 11, op := .mv (.t 1) },
  { dst := some 12, op := .mv (.t 0) },
  { dst := some 13, op := .call .raw (.t 10) [.t 11, .t 12] }])
 .skip))) }
def A_eco_pairs_4 : AFun := { res := [], body := (.seq (.reg false [{ dst := some 6, op := .box (.t 2) }])
 (.seq (.reg false [{ dst := some 7, op := .fa 1 (.t 6) },
  { dst := some 8, op := .ld none (.t 7) },
  { dst := some 9, op := .bin .eql (.t 8) (.c (.i .i64 2)) }])
 (.cond (.t 9) (.reg false [{ dst := some 10, op := .ld none (.t 3) },
  { dst := some 11, op := .mv (.t 0) },
  { dst := some 12, op := .mv (.t 0) },
  { dst := some 13, op := .call .raw (.t 10) [.t 11, .t 12] }])
 .skip))) }
def A_eco_pairs_5 : AFun := { res := [], body := (.seq (.reg false [{ dst := some 6, op := .box (.t 2) }])
 (.seq (.reg false [{ dst := some 7, op := .fa 1 (.t 6) },
  { dst := some 8, op := .ld none (.t 7) },
  { dst := some 9, op := .bin .eql (.t 8) (.c (.i .i64 1)) }])
 (.cond (.t 9) (.reg false [{ dst := some 10, op := .ld none (.t 3) },
  { dst := some 11, op := .mv (.t 0) },
  { dst := some 12, op := .mv (.t 1) },
  { dst := some 13, op := .call .raw (.t 10) [.t 11, .t 12] }])
 .skip))) }
structure Pk_eco (F : Funs) : Prop where
  eco_Inner : F 39 = some A_eco_Inner
  eco_Outer : F 40 = some A_eco_Outer
  eco_Loc : F 41 = some A_eco_Loc
  eco_Eco : F 42 = some A_eco_Eco
  eco_Rf : F 48 = some A_eco_Rf
  eco_Co : F 49 = some A_eco_Co
  eco_Fr : F 50 = some A_eco_Fr
  eco_some : F 57 = some A_eco_some
  eco_Inner_1 : F 58 = some A_eco_Inner_1
  eco_Outer_1 : F 59 = some A_eco_Outer_1
  eco_Loc_1 : F 61 = some A_eco_Loc_1
  eco_pairs : F 80 = some A_eco_pairs
  eco_pairs_1 : F 92 = some A_eco_pairs_1
  eco_pairs_2 : F 93 = some A_eco_pairs_2
  eco_pairs_3 : F 94 = some A_eco_pairs_3
  eco_pairs_4 : F 95 = some A_eco_pairs_4
  eco_pairs_5 : F 96 = some A_eco_pairs_5
end Go.Ab
end
section
namespace Go.Ab
def A_xlaw00_Place : AFun := { res := [.t 4], body := (.seq (.reg false [{ dst := some 4, op := .mv (.c (.i .i64 0)) }])
 (.seq (.reg false [{ dst := some 6, op := .mv (.t 0) },
  { dst := some 7, op := .mv (.t 1) },
  { dst := some 8, op := .bin .rem (.t 6) (.t 7) },
  { dst := some 5, op := .mv (.t 8) }])
 (.seq (.seq (.reg false [{ dst := some 9, op := .mv (.t 5) },
  { dst := some 10, op := .bin .lss (.t 9) (.c (.i .i64 0)) }])
 (.cond (.t 10) (.reg false [{ dst := some 11, op := .mv (.t 5) },
  { dst := some 12, op := .mv (.t 1) },
  { dst := some 13, op := .bin .add (.t 11) (.t 12) },
  { dst := some 5, op := .mv (.t 13) }])
 .skip))
 (.seq (.reg false [{ dst := some 14, op := .mv (.t 5) },
  { dst := some 4, op := .mv (.t 14) }])
 .ret)))) }
def A_xlaw00_Small : AFun := { res := [.cell 2 (some 2)], body := (.seq (.reg false [{ dst := some 2, op := .new ([.i .i64 0, .sl [] 0 .rig]) }])
 (.seq (.seq (.reg false [{ dst := some 3, op := .mv (.t 0) },
  { dst := some 4, op := .len (.t 3) },
  { dst := some 5, op := .bin .gtr (.t 4) (.c (.i .i64 0)) },
  { dst := some 6, op := .mv (.t 5) },
  { dst := some 7, op := .mv (.t 0), grd := some (6, true) },
  { dst := some 8, op := .ia 1 (.t 7) (.c (.i .i64 0)), grd := some (6, true) },
  { dst := some 9, op := .ld none (.t 8), grd := some (6, true) },
  { dst := some 10, op := .call .pure (.c (.fn 10 [] [])) [.t 9, .c (.i .i64 4)], grd := some (6, true) },
  { dst := some 11, op := .bin .eql (.t 10) (.c (.i .i64 0)), grd := some (6, true) },
  { dst := some 12, op := .pick (.t 6) (.t 11) (.c (.b false)) }])
 (.cond (.t 12) (.seq (.reg false [{ dst := some 13, op := .mv (.t 0) },
  { dst := some 14, op := .call .pure (.c (.fn 86 [] [])) [.t 13, .c (.i .i64 3), .c (.i .i64 2)] },
  { dst := none, op := .st 2 (.t 2) (.t 14) }])
 .ret)
 .skip))
 (.seq (.reg false [{ dst := some 15, op := .mv (.t 0) },
  { dst := some 16, op := .call .pure (.c (.fn 86 [] [])) [.t 15, .c (.i .i64 2), .c (.i .i64 3)] },
  { dst := none, op := .st 2 (.t 2) (.t 16) }])
 .ret))) }
def A_xlaw00_Loads : AFun := { res := [.t 2], body := (.seq (.reg false [{ dst := some 1, op := .box (.t 0) },
  { dst := some 2, op := .mv (.c (.i .i64 0)) }])
 (.seq (.reg false [{ dst := some 3, op := .mv (.c (.i .i64 0)) }])
 (.seq (.seq (.reg false [{ dst := some 4, op := .mv (.c (.i .i64 0)) }])
 (.blk 0 (.loop (.seq (.seq (.reg false [{ dst := some 7, op := .mv (.t 4) },
  { dst := some 8, op := .fa 1 (.t 1) },
  { dst := some 9, op := .ld none (.t 8) },
  { dst := some 10, op := .len (.t 9) },
  { dst := some 11, op := .bin .lss (.t 7) (.t 10) }])
 (.cond (.t 11) .skip
 (.ext 0)))
 (.seq (.blk 1 (.seq (.reg false [{ dst := some 5, op := .mv (.c (.i .i64 0)) }])
 (.blk 2 (.loop (.seq (.seq (.reg false [{ dst := some 14, op := .mv (.t 5) },
  { dst := some 15, op := .fa 1 (.t 1) },
  { dst := some 16, op := .ld none (.t 15) },
  { dst := some 17, op := .mv (.t 4) },
  { dst := some 18, op := .ia 1 (.t 16) (.t 17) },
  { dst := some 19, op := .ld none (.t 18) },
  { dst := some 20, op := .len (.t 19) },
  { dst := some 21, op := .bin .lss (.t 14) (.t 20) }])
 (.cond (.t 21) .skip
 (.ext 2)))
 (.seq (.blk 3 (.seq (.reg false [{ dst := some 24, op := .fa 1 (.t 1) },
  { dst := some 25, op := .ld none (.t 24) },
  { dst := some 26, op := .mv (.t 4) },
  { dst := some 27, op := .ia 1 (.t 25) (.t 26) },
  { dst := some 28, op := .ld none (.t 27) },
  { dst := some 29, op := .mv (.t 5) },
  { dst := some 30, op := .ia 7 (.t 28) (.t 29) },
  { dst := some 31, op := .ld (some 7) (.t 30) },
  { dst := some 6, op := .new (List.replicate 5 (.i .i64 0) ++ [.sl [] 0 .rig, .i .i64 0]) },
  { dst := none, op := .st 7 (.t 6) (.t 31) }])
 (.seq (.reg false [{ dst := some 32, op := .fa 0 (.t 6) },
  { dst := some 33, op := .ld none (.t 32) },
  { dst := some 34, op := .bin .eql (.t 33) (.c (.i .i64 1)) },
  { dst := some 35, op := .mv (.t 34) },
  { dst := some 36, op := .fa 0 (.t 6), grd := some (35, false) },
  { dst := some 37, op := .ld none (.t 36), grd := some (35, false) },
  { dst := some 38, op := .bin .eql (.t 37) (.c (.i .i64 4)), grd := some (35, false) },
  { dst := some 39, op := .pick (.t 35) (.c (.b true)) (.t 38) }])
 (.cond (.t 39) (.reg false [{ dst := some 40, op := .mv (.t 3) },
  { dst := some 41, op := .bin .add (.t 40) (.c (.i .i64 1)) },
  { dst := some 3, op := .mv (.t 41) }])
 .skip))))
 (.reg false [{ dst := some 22, op := .mv (.t 5) },
  { dst := some 23, op := .bin .add (.t 22) (.c (.i .i64 1)) },
  { dst := some 5, op := .mv (.t 23) }])))))))
 (.reg false [{ dst := some 12, op := .mv (.t 4) },
  { dst := some 13, op := .bin .add (.t 12) (.c (.i .i64 1)) },
  { dst := some 4, op := .mv (.t 13) }]))))))
 (.seq (.reg false [{ dst := some 42, op := .mv (.t 3) },
  { dst := some 2, op := .mv (.t 42) }])
 .ret)))) }
def A_xlaw00_Domain : AFun := { res := [.t 0], body := (.seq (.reg false [{ dst := some 0, op := .mv (.c (.sl [] 0 .rig)) }])
 (.seq (.reg false [{ dst := some 1, op := .bsl true 3 ([.i .i64 0, .i .i64 0, .i .i64 0]) [(0, 1, .c (.i .i64 0)), (1, 1, .c (.i .i64 1)), (2, 1, .c (.i .i64 2))] },
  { dst := some 0, op := .mv (.t 1) }])
 .ret)) }
def A_xlaw00_Prog : AFun := { res := [.cell 6 (some 2)], body := (.seq (.reg false [{ dst := some 6, op := .new ([.i .i64 0, .sl [] 0 .rig]) }])
 (.seq (.reg false [{ dst := some 14, op := .mv (.t 1) },
  { dst := some 15, op := .mksl ([.sl [] 0 .rig]) 1 24 (.t 14) (.t 14) },
  { dst := some 16, op := .build ([.i .i64 0, .sl [] 0 .rig]) [(0, 1, .c (.i .i64 2)), (1, 1, .t 15)] },
  { dst := some 7, op := .new ([.i .i64 0, .sl [] 0 .rig]) },
  { dst := none, op := .st 2 (.t 7) (.t 16) }])
 (.seq (.seq (.reg false [{ dst := some 8, op := .mv (.c (.i .i64 0)) }])
 (.blk 0 (.loop (.seq (.seq (.reg false [{ dst := some 17, op := .mv (.t 8) },
  { dst := some 18, op := .mv (.t 1) },
  { dst := some 19, op := .bin .lss (.t 17) (.t 18) }])
 (.cond (.t 19) .skip
 (.ext 0)))
 (.seq (.blk 1 (.seq (.reg false [{ dst := some 9, op := .mv (.c (.i .i64 0)) },
  { dst := some 10, op := .mv (.c (.i .i64 0)) }])
 (.seq (.seq (.reg false [{ dst := some 22, op := .mv (.t 8) },
  { dst := some 11, op := .mv (.t 22) }])
 (.blk 2 (.loop (.seq (.seq (.reg false [{ dst := some 23, op := .mv (.t 11) },
  { dst := some 24, op := .mv (.t 0) },
  { dst := some 25, op := .len (.t 24) },
  { dst := some 26, op := .bin .lss (.t 23) (.t 25) },
  { dst := some 27, op := .mv (.t 26) },
  { dst := some 28, op := .mv (.t 9), grd := some (27, true) },
  { dst := some 29, op := .mv (.t 2), grd := some (27, true) },
  { dst := some 30, op := .bin .lss (.t 28) (.t 29), grd := some (27, true) },
  { dst := some 31, op := .pick (.t 27) (.t 30) (.c (.b false)) }])
 (.cond (.t 31) .skip
 (.ext 2)))
 (.seq (.blk 3 (.reg false [{ dst := some 35, op := .mv (.t 9) },
  { dst := some 36, op := .bin .add (.t 35) (.c (.i .i64 1)) },
  { dst := some 9, op := .mv (.t 36) }]))
 (.reg false [{ dst := some 32, op := .mv (.t 11) },
  { dst := some 33, op := .mv (.t 1) },
  { dst := some 34, op := .bin .add (.t 32) (.t 33) },
  { dst := some 11, op := .mv (.t 34) }]))))))
 (.seq (.reg false [{ dst := some 12, op := .mv (.c (.i .i64 0)) }])
 (.blk 4 (.loop (.seq (.seq (.reg false [{ dst := some 37, op := .mv (.t 12) },
  { dst := some 38, op := .mv (.t 9) },
  { dst := some 39, op := .bin .lss (.t 37) (.t 38) }])
 (.cond (.t 39) .skip
 (.ext 4)))
 (.seq (.blk 5 (.seq (.reg true [{ dst := some 42, op := .mv (.t 0) },
  { dst := some 43, op := .mv (.t 8) },
  { dst := some 44, op := .mv (.t 12) },
  { dst := some 45, op := .mv (.t 1) },
  { dst := some 46, op := .bin .mul (.t 44) (.t 45) },
  { dst := some 47, op := .bin .add (.t 43) (.t 46) },
  { dst := some 48, op := .ia 1 (.t 42) (.t 47) },
  { dst := some 49, op := .ld none (.t 48), pre := [] },
  { dst := some 50, op := .fa 0 (.t 7) },
  { dst := some 51, op := .ld none (.t 50), pre := [] },
  { dst := some 52, op := .mv (.t 9) },
  { dst := some 53, op := .bin .sub (.t 52) (.c (.i .i64 1)) },
  { dst := some 54, op := .mv (.t 12) },
  { dst := some 55, op := .bin .sub (.t 53) (.t 54) },
  { dst := some 56, op := .call .pure (.c (.fn 97 [] [])) [.t 49, .t 51, .t 55], pre := [] },
  { dst := some 13, op := .new (List.replicate 5 (.i .i64 0) ++ [.sl [] 0 .rig, .i .i64 0]) },
  { dst := none, op := .stL 7 (.t 13) (.t 56), pre := [15] }])
 (.seq (.seq (.reg false [{ dst := some 57, op := .fa 0 (.t 13) },
  { dst := some 58, op := .ld none (.t 57) },
  { dst := some 59, op := .bin .eql (.t 58) (.c (.i .i64 6)) }])
 (.cond (.t 59) (.seq (.reg false [{ dst := some 60, op := .mv (.t 10) },
  { dst := some 61, op := .bin .add (.t 60) (.c (.i .i64 1)) },
  { dst := some 10, op := .mv (.t 61) }])
 (.seq (.reg false [{ dst := some 62, op := .mv (.t 10) },
  { dst := some 63, op := .bin .gtr (.t 62) (.c (.i .i64 2)) }])
 (.cond (.t 63) (.reg false [{ dst := some 64, op := .build (List.replicate 5 (.i .i64 0) ++ [.sl [] 0 .rig, .i .i64 0]) [(0, 1, .c (.i .i64 3)), (1, 1, .c (.i .i64 4))] },
  { dst := none, op := .st 7 (.t 13) (.t 64) }])
 .skip)))
 .skip))
 (.reg true [{ dst := some 65, op := .fa 1 (.t 7) },
  { dst := some 66, op := .ld none (.t 65), pre := [] },
  { dst := some 67, op := .mv (.t 8) },
  { dst := some 68, op := .fa 1 (.t 7) },
  { dst := some 69, op := .ld none (.t 68), pre := [] },
  { dst := some 70, op := .mv (.t 8) },
  { dst := some 71, op := .ia 1 (.t 69) (.t 70) },
  { dst := some 72, op := .ld none (.t 71), pre := [] },
  { dst := some 73, op := .ld (some 7) (.t 13), pre := [] },
  { dst := some 74, op := .bsl true 1 (List.replicate 5 (.i .i64 0) ++ [.sl [] 0 .rig, .i .i64 0]) [(0, 7, .t 73)], pre := [] },
  { dst := some 75, op := .app 7 72 (.t 72) (.t 74), pre := [] },
  { dst := some 76, op := .ia 1 (.t 66) (.t 67) },
  { dst := none, op := .st 1 (.t 76) (.t 75), pre := [10] }]))))
 (.reg false [{ dst := some 40, op := .mv (.t 12) },
  { dst := some 41, op := .bin .add (.t 40) (.c (.i .i64 1)) },
  { dst := some 12, op := .mv (.t 41) }])))))))))
 (.reg false [{ dst := some 20, op := .mv (.t 8) },
  { dst := some 21, op := .bin .add (.t 20) (.c (.i .i64 1)) },
  { dst := some 8, op := .mv (.t 21) }]))))))
 (.seq (.reg false [{ dst := some 77, op := .ld (some 2) (.t 7) },
  { dst := none, op := .st 2 (.t 6) (.t 77) }])
 .ret)))) }
def A_xlaw00_Instr : AFun := { res := [.cell 6 (some 7)], body := (.seq (.reg false [{ dst := some 6, op := .new (List.replicate 5 (.i .i64 0) ++ [.sl [] 0 .rig, .i .i64 0]) }])
 (.seq (.reg false [{ dst := some 15, op := .mv (.t 0) },
  { dst := some 16, op := .call .pure (.c (.fn 10 [] [])) [.t 15, .c (.i .i64 1099511627776)] },
  { dst := some 7, op := .mv (.t 16) }])
 (.seq (.reg false [{ dst := some 17, op := .mv (.t 7) },
  { dst := some 18, op := .bin .quo (.t 17) (.c (.i .i64 20)) },
  { dst := some 8, op := .mv (.t 18) }])
 (.seq (.reg true [{ dst := some 19, op := .mv (.t 8) },
  { dst := some 20, op := .bin .rem (.t 19) (.c (.i .i64 3)) },
  { dst := some 21, op := .mv (.t 8) },
  { dst := some 22, op := .bin .quo (.t 21) (.c (.i .i64 3)) },
  { dst := some 23, op := .mv (.t 1) },
  { dst := some 24, op := .bin .rem (.t 22) (.t 23) },
  { dst := some 25, op := .mv (.t 8) },
  { dst := some 26, op := .bin .quo (.t 25) (.c (.i .i64 12)) },
  { dst := some 27, op := .call .pure (.c (.fn 107 [] [])) [.t 26], pre := [] },
  { dst := some 9, op := .mv (.t 20) },
  { dst := some 10, op := .mv (.t 24) },
  { dst := some 11, op := .mv (.t 27) }])
 (.seq (.reg true [{ dst := some 28, op := .build ([.i .i64 0, .i .i64 0, .i .i64 0]) [(0, 1, .c (.i .i64 0)), (1, 1, .c (.i .i64 0)), (2, 1, .c (.i .i64 1))] },
  { dst := some 29, op := .mv (.t 8) },
  { dst := some 30, op := .bin .quo (.t 29) (.c (.i .i64 7)) },
  { dst := some 31, op := .bin .rem (.t 30) (.c (.i .i64 3)) },
  { dst := some 32, op := .idx 3 1 none (.t 28) (.t 31) },
  { dst := some 33, op := .build ([.i .i64 0, .i .i64 0, .i .i64 0]) [(0, 1, .c (.i .i64 0)), (1, 1, .c (.i .i64 0)), (2, 1, .c (.i .i64 2))] },
  { dst := some 34, op := .mv (.t 8) },
  { dst := some 35, op := .bin .quo (.t 34) (.c (.i .i64 11)) },
  { dst := some 36, op := .bin .rem (.t 35) (.c (.i .i64 3)) },
  { dst := some 37, op := .idx 3 1 none (.t 33) (.t 36) },
  { dst := some 12, op := .mv (.t 32) },
  { dst := some 13, op := .mv (.t 37) }])
 (.seq (.seq (.reg false [{ dst := some 38, op := .mv (.t 7) },
  { dst := some 39, op := .bin .rem (.t 38) (.c (.i .i64 20)) },
  { dst := some 14, op := .mv (.t 39) }])
 (.blk 0 (.seq (.reg false [{ dst := some 41, op := .mv (.t 14) },
  { dst := some 42, op := .bin .lss (.t 41) (.c (.i .i64 6)) },
  { dst := some 40, op := .mv (.t 42) }])
 (.cond (.t 40) (.seq (.reg false [{ dst := some 43, op := .mv (.t 9) },
  { dst := some 44, op := .mv (.t 10) },
  { dst := some 45, op := .mv (.t 12) },
  { dst := some 46, op := .build (List.replicate 5 (.i .i64 0) ++ [.sl [] 0 .rig, .i .i64 0]) [(0, 1, .c (.i .i64 1)), (3, 1, .t 43), (4, 1, .t 44), (1, 1, .t 45)] },
  { dst := none, op := .st 7 (.t 6) (.t 46) }])
 .ret)
 (.seq (.reg false [{ dst := some 48, op := .mv (.t 14) },
  { dst := some 49, op := .bin .lss (.t 48) (.c (.i .i64 12)) },
  { dst := some 47, op := .mv (.t 49) }])
 (.cond (.t 47) (.seq (.reg false [{ dst := some 50, op := .mv (.t 10) },
  { dst := some 51, op := .mv (.t 13) },
  { dst := some 52, op := .mv (.t 11) },
  { dst := some 53, op := .build (List.replicate 5 (.i .i64 0) ++ [.sl [] 0 .rig, .i .i64 0]) [(0, 1, .c (.i .i64 2)), (4, 1, .t 50), (1, 1, .t 51), (5, 1, .t 52)] },
  { dst := none, op := .st 7 (.t 6) (.t 53) }])
 .ret)
 (.seq (.reg false [{ dst := some 55, op := .mv (.t 14) },
  { dst := some 56, op := .bin .lss (.t 55) (.c (.i .i64 15)) },
  { dst := some 54, op := .mv (.t 56) }])
 (.cond (.t 54) (.seq (.reg false [{ dst := some 57, op := .mv (.t 8) },
  { dst := some 58, op := .bin .quo (.t 57) (.c (.i .i64 5)) },
  { dst := some 59, op := .bin .rem (.t 58) (.c (.i .i64 4)) },
  { dst := some 60, op := .bin .add (.c (.i .i64 1)) (.t 59) },
  { dst := some 61, op := .build (List.replicate 5 (.i .i64 0) ++ [.sl [] 0 .rig, .i .i64 0]) [(0, 1, .c (.i .i64 3)), (1, 1, .t 60)] },
  { dst := none, op := .st 7 (.t 6) (.t 61) }])
 .ret)
 (.seq (.reg false [{ dst := some 63, op := .mv (.t 14) },
  { dst := some 64, op := .bin .lss (.t 63) (.c (.i .i64 16)) },
  { dst := some 62, op := .mv (.t 64) }])
 (.cond (.t 62) (.seq (.reg false [{ dst := some 65, op := .mv (.t 9) },
  { dst := some 66, op := .mv (.t 10) },
  { dst := some 67, op := .mv (.t 12) },
  { dst := some 68, op := .mv (.t 13) },
  { dst := some 69, op := .mv (.t 8) },
  { dst := some 70, op := .bin .quo (.t 69) (.c (.i .i64 17)) },
  { dst := some 71, op := .bin .rem (.t 70) (.c (.i .i64 2)) },
  { dst := some 72, op := .call .pure (.c (.fn 108 [] [])) [.t 71] },
  { dst := some 73, op := .bsl true 1 ([.i .i64 0, .i .i64 0]) [(0, 2, .t 72)] },
  { dst := some 74, op := .build (List.replicate 5 (.i .i64 0) ++ [.sl [] 0 .rig, .i .i64 0]) [(0, 1, .c (.i .i64 4)), (3, 1, .t 65), (4, 1, .t 66), (1, 1, .t 67), (2, 1, .t 68), (5, 1, .t 73)] },
  { dst := none, op := .st 7 (.t 6) (.t 74) }])
 .ret)
 (.seq (.reg false [{ dst := some 76, op := .mv (.t 14) },
  { dst := some 77, op := .bin .lss (.t 76) (.c (.i .i64 18)) },
  { dst := some 75, op := .mv (.t 77) }])
 (.cond (.t 75) (.seq (.reg false [{ dst := some 78, op := .mv (.t 9) },
  { dst := some 79, op := .mv (.t 11) },
  { dst := some 80, op := .build (List.replicate 5 (.i .i64 0) ++ [.sl [] 0 .rig, .i .i64 0]) [(0, 1, .c (.i .i64 5)), (3, 1, .t 78), (5, 1, .t 79)] },
  { dst := none, op := .st 7 (.t 6) (.t 80) }])
 .ret)
 .skip))))))))))))
 (.seq (.reg false [{ dst := some 81, op := .mv (.t 8) },
  { dst := some 82, op := .bin .quo (.t 81) (.c (.i .i64 19)) },
  { dst := some 83, op := .mv (.t 2) },
  { dst := some 84, op := .bin .add (.t 83) (.c (.i .i64 1)) },
  { dst := some 85, op := .bin .rem (.t 82) (.t 84) },
  { dst := some 86, op := .mv (.t 11) },
  { dst := some 87, op := .build (List.replicate 5 (.i .i64 0) ++ [.sl [] 0 .rig, .i .i64 0]) [(0, 1, .c (.i .i64 6)), (6, 1, .t 85), (5, 1, .t 86)] },
  { dst := none, op := .st 7 (.t 6) (.t 87) }])
 .ret))))))) }
def A_xlaw00_Expr : AFun := { res := [.t 2], body := (.seq (.reg false [{ dst := some 2, op := .mv (.c (.sl [] 0 .rig)) }])
 (.seq (.reg false [{ dst := some 6, op := .mv (.t 0) },
  { dst := some 7, op := .call .pure (.c (.fn 10 [] [])) [.t 6, .c (.i .i64 1073741824)] },
  { dst := some 3, op := .mv (.t 7) }])
 (.seq (.reg false [{ dst := some 8, op := .mv (.t 3) },
  { dst := some 9, op := .bin .quo (.t 8) (.c (.i .i64 10)) },
  { dst := some 10, op := .bin .rem (.t 9) (.c (.i .i64 3)) },
  { dst := some 11, op := .call .pure (.c (.fn 123 [] [])) [.t 10] },
  { dst := some 12, op := .mv (.t 3) },
  { dst := some 13, op := .bin .quo (.t 12) (.c (.i .i64 30)) },
  { dst := some 14, op := .bin .rem (.t 13) (.c (.i .i64 3)) },
  { dst := some 15, op := .call .pure (.c (.fn 108 [] [])) [.t 14] },
  { dst := some 4, op := .new ([.i .i64 0, .i .i64 0]) },
  { dst := some 5, op := .new ([.i .i64 0, .i .i64 0]) },
  { dst := none, op := .st 2 (.t 4) (.t 11) },
  { dst := none, op := .st 2 (.t 5) (.t 15) }])
 (.seq (.seq (.reg false [{ dst := some 16, op := .mv (.t 3) },
  { dst := some 17, op := .bin .rem (.t 16) (.c (.i .i64 10)) }])
 (.blk 0 (.seq (.seq (.reg false [{ dst := some 19, op := .bin .eql (.t 17) (.c (.i .i64 0)) },
  { dst := some 18, op := .mv (.t 19) }])
 (.cond (.t 18) .skip
 (.seq (.reg false [{ dst := some 20, op := .bin .eql (.t 17) (.c (.i .i64 1)) },
  { dst := some 18, op := .mv (.t 20) }])
 (.cond (.t 18) .skip
 (.reg false [{ dst := some 21, op := .bin .eql (.t 17) (.c (.i .i64 2)) },
  { dst := some 18, op := .mv (.t 21) }])))))
 (.cond (.t 18) (.seq (.reg false [{ dst := some 22, op := .ld (some 2) (.t 5) },
  { dst := some 23, op := .bsl true 1 ([.i .i64 0, .i .i64 0]) [(0, 2, .t 22)] },
  { dst := some 2, op := .mv (.t 23) }])
 .ret)
 (.seq (.seq (.reg false [{ dst := some 25, op := .bin .eql (.t 17) (.c (.i .i64 3)) },
  { dst := some 24, op := .mv (.t 25) }])
 (.cond (.t 24) .skip
 (.seq (.reg false [{ dst := some 26, op := .bin .eql (.t 17) (.c (.i .i64 4)) },
  { dst := some 24, op := .mv (.t 26) }])
 (.cond (.t 24) .skip
 (.reg false [{ dst := some 27, op := .bin .eql (.t 17) (.c (.i .i64 5)) },
  { dst := some 24, op := .mv (.t 27) }])))))
 (.cond (.t 24) (.seq (.reg false [{ dst := some 28, op := .ld (some 2) (.t 4) },
  { dst := some 29, op := .bsl true 1 ([.i .i64 0, .i .i64 0]) [(0, 2, .t 28)] },
  { dst := some 2, op := .mv (.t 29) }])
 .ret)
 (.seq (.reg false [{ dst := some 31, op := .bin .eql (.t 17) (.c (.i .i64 6)) },
  { dst := some 30, op := .mv (.t 31) }])
 (.cond (.t 30) (.seq (.reg true [{ dst := some 32, op := .ld (some 2) (.t 4), pre := [] },
  { dst := some 33, op := .ld (some 2) (.t 4), pre := [] },
  { dst := some 34, op := .call .pure (.c (.fn 124 [] [])) [.c (.i .i64 4)], pre := [] },
  { dst := some 35, op := .bsl true 3 (List.replicate 6 (.i .i64 0)) [(0, 2, .t 32), (2, 2, .t 33), (4, 2, .t 34)], pre := [] },
  { dst := some 2, op := .mv (.t 35) }])
 .ret)
 (.seq (.reg false [{ dst := some 37, op := .bin .eql (.t 17) (.c (.i .i64 7)) },
  { dst := some 36, op := .mv (.t 37) }])
 (.cond (.t 36) (.seq (.reg true [{ dst := some 38, op := .ld (some 2) (.t 4), pre := [] },
  { dst := some 39, op := .ld (some 2) (.t 5), pre := [] },
  { dst := some 40, op := .call .pure (.c (.fn 124 [] [])) [.c (.i .i64 5)], pre := [] },
  { dst := some 41, op := .bsl true 3 (List.replicate 6 (.i .i64 0)) [(0, 2, .t 38), (2, 2, .t 39), (4, 2, .t 40)], pre := [] },
  { dst := some 2, op := .mv (.t 41) }])
 .ret)
 (.seq (.reg false [{ dst := some 43, op := .bin .eql (.t 17) (.c (.i .i64 8)) },
  { dst := some 42, op := .mv (.t 43) }])
 (.cond (.t 42) (.seq (.reg true [{ dst := some 44, op := .ld (some 2) (.t 4), pre := [] },
  { dst := some 45, op := .ld (some 2) (.t 5), pre := [] },
  { dst := some 46, op := .call .pure (.c (.fn 124 [] [])) [.c (.i .i64 6)], pre := [] },
  { dst := some 47, op := .bsl true 3 (List.replicate 6 (.i .i64 0)) [(0, 2, .t 44), (2, 2, .t 45), (4, 2, .t 46)], pre := [] },
  { dst := some 2, op := .mv (.t 47) }])
 .ret)
 .skip))))))))))))
 (.seq (.reg true [{ dst := some 48, op := .ld (some 2) (.t 5), pre := [] },
  { dst := some 49, op := .call .pure (.c (.fn 108 [] [])) [.c (.i .i64 1)], pre := [] },
  { dst := some 50, op := .call .pure (.c (.fn 124 [] [])) [.c (.i .i64 3)], pre := [] },
  { dst := some 51, op := .bsl true 3 (List.replicate 6 (.i .i64 0)) [(0, 2, .t 48), (2, 2, .t 49), (4, 2, .t 50)], pre := [] },
  { dst := some 2, op := .mv (.t 51) }])
 .ret))))) }
def A_xlaw00_num : AFun := { res := [.cell 2 (some 2)], body := (.seq (.reg false [{ dst := some 2, op := .new ([.i .i64 0, .i .i64 0]) }])
 (.seq (.reg false [{ dst := some 3, op := .mv (.t 0) },
  { dst := some 4, op := .build ([.i .i64 0, .i .i64 0]) [(0, 1, .c (.i .i64 1)), (1, 1, .t 3)] },
  { dst := none, op := .st 2 (.t 2) (.t 4) }])
 .ret)) }
def A_xlaw00_reg : AFun := { res := [.cell 2 (some 2)], body := (.seq (.reg false [{ dst := some 2, op := .new ([.i .i64 0, .i .i64 0]) }])
 (.seq (.reg false [{ dst := some 3, op := .mv (.t 0) },
  { dst := some 4, op := .build ([.i .i64 0, .i .i64 0]) [(0, 1, .c (.i .i64 2)), (1, 1, .t 3)] },
  { dst := none, op := .st 2 (.t 2) (.t 4) }])
 .ret)) }
def A_xlaw00_op : AFun := { res := [.cell 2 (some 2)], body := (.seq (.reg false [{ dst := some 2, op := .new ([.i .i64 0, .i .i64 0]) }])
 (.seq (.reg false [{ dst := some 3, op := .mv (.t 0) },
  { dst := some 4, op := .build ([.i .i64 0, .i .i64 0]) [(0, 1, .c (.i .i64 3)), (1, 1, .t 3)] },
  { dst := none, op := .st 2 (.t 2) (.t 4) }])
 .ret)) }
end Go.Ab
end
section
namespace Go.Ab
def A_xlaw09_EcoNumbers : AFun := { res := [.t 6], body := (.seq (.reg false [{ dst := some 6, op := .mv (.c (.b false)) }])
 (.seq (.reg false [{ dst := some 10, op := .mv (.t 0) },
  { dst := some 11, op := .mv (.t 1) },
  { dst := some 12, op := .call .pure (.c (.fn 47 [] [])) [.t 10, .t 11] },
  { dst := some 9, op := .mv (.t 12) },
  { dst := some 13, op := .ext 0 (.t 9) },
  { dst := some 14, op := .ext 1 (.t 9) },
  { dst := some 7, op := .new ([.i .i64 0] ++ List.replicate 7 (.sl [] 0 .rig)) },
  { dst := none, op := .st 8 (.t 7) (.t 13) },
  { dst := some 8, op := .mv (.t 14) }])
 (.seq (.seq (.reg false [{ dst := some 15, op := .mv (.t 8) },
  { dst := some 16, op := .un .not (.t 15) },
  { dst := some 17, op := .mv (.t 16) },
  { dst := some 18, op := .mv (.t 2), grd := some (17, false) },
  { dst := some 19, op := .len (.t 18), grd := some (17, false) },
  { dst := some 20, op := .bin .gtr (.t 19) (.c (.i .i64 200)), grd := some (17, false) },
  { dst := some 21, op := .pick (.t 17) (.c (.b true)) (.t 20) }])
 (.cond (.t 21) (.seq (.reg false [{ dst := some 22, op := .call .pure (.c (.fn 43 [] [])) [] },
  { dst := some 6, op := .mv (.t 22) }])
 .ret)
 .skip))
 (.seq (.reg false [{ dst := some 23, op := .ld (some 8) (.t 7) },
  { dst := some 24, op := .mv (.t 2) },
  { dst := some 25, op := .call .pure (.c (.fn 46 [] [])) [.t 23, .t 24] },
  { dst := some 26, op := .mv (.t 25) },
  { dst := some 27, op := .call .pure (.c (.fn 43 [] [])) [], grd := some (26, true) },
  { dst := some 28, op := .pick (.t 26) (.t 27) (.c (.b false)) },
  { dst := some 6, op := .mv (.t 28) }])
 .ret)))) }
def A_xlaw09_awake : AFun := { res := [.t 0], body := (.seq (.reg false [{ dst := some 0, op := .mv (.c (.b false)) }])
 (.seq (.reg false [{ dst := some 2, op := .call .pure (.c (.fn 62 [] [])) [] },
  { dst := some 1, op := .new ([.i .i64 0] ++ List.replicate 7 (.sl [] 0 .rig)) },
  { dst := none, op := .st 8 (.t 1) (.t 2) }])
 (.seq (.reg true [{ dst := some 3, op := .ld (some 8) (.t 1), pre := [] },
  { dst := some 4, op := .call .pure (.c (.fn 48 [] [])) [.t 3], pre := [] },
  { dst := some 5, op := .call .pure (.c (.fn 13 [] [])) [.t 4, .c (.i .i64 0), .c (.i .i64 1)], pre := [] },
  { dst := some 6, op := .mv (.t 5) },
  { dst := some 7, op := .ld (some 8) (.t 1), grd := some (6, true), pre := [] },
  { dst := some 8, op := .ld (some 8) (.t 1), grd := some (6, true), pre := [] },
  { dst := some 9, op := .call .pure (.c (.fn 48 [] [])) [.t 8], grd := some (6, true), pre := [] },
  { dst := some 10, op := .call .pure (.c (.fn 40 [] [])) [.t 7, .t 9], grd := some (6, true), pre := [] },
  { dst := some 11, op := .call .pure (.c (.fn 13 [] [])) [.t 10, .c (.i .i64 0), .c (.i .i64 1)], grd := some (6, true), pre := [] },
  { dst := some 12, op := .pick (.t 6) (.t 11) (.c (.b false)) },
  { dst := some 13, op := .mv (.t 12) },
  { dst := some 14, op := .ld (some 8) (.t 1), grd := some (13, true), pre := [] },
  { dst := some 15, op := .ld (some 8) (.t 1), grd := some (13, true), pre := [] },
  { dst := some 16, op := .call .pure (.c (.fn 48 [] [])) [.t 15], grd := some (13, true), pre := [] },
  { dst := some 17, op := .call .pure (.c (.fn 39 [] [])) [.t 14, .t 16], grd := some (13, true), pre := [] },
  { dst := some 18, op := .call .pure (.c (.fn 13 [] [])) [.t 17, .c (.i .i64 0), .c (.i .i64 1)], grd := some (13, true), pre := [] },
  { dst := some 19, op := .un .not (.t 18), grd := some (13, true) },
  { dst := some 20, op := .pick (.t 13) (.t 19) (.c (.b false)) },
  { dst := some 21, op := .mv (.t 20) },
  { dst := some 22, op := .ld (some 8) (.t 1), grd := some (21, true), pre := [] },
  { dst := some 23, op := .call .pure (.c (.fn 41 [] [])) [.t 22], grd := some (21, true), pre := [] },
  { dst := some 24, op := .call .pure (.c (.fn 13 [] [])) [.t 23, .c (.i .i64 0), .c (.i .i64 1)], grd := some (21, true), pre := [] },
  { dst := some 25, op := .pick (.t 21) (.t 24) (.c (.b false)) },
  { dst := some 26, op := .mv (.t 25) },
  { dst := some 27, op := .ld (some 8) (.t 1), grd := some (26, true), pre := [] },
  { dst := some 28, op := .call .pure (.c (.fn 50 [] [])) [.t 27], grd := some (26, true), pre := [] },
  { dst := some 29, op := .call .pure (.c (.fn 13 [] [])) [.t 28, .c (.i .i64 1), .c (.i .i64 0)], grd := some (26, true), pre := [] },
  { dst := some 30, op := .un .not (.t 29), grd := some (26, true) },
  { dst := some 31, op := .pick (.t 26) (.t 30) (.c (.b false)) },
  { dst := some 0, op := .mv (.t 31) }])
 .ret))) }
def A_xlaw09_all : AFun := { res := [.t 4], body := (.seq (.reg false [{ dst := some 2, op := .box (.t 0) },
  { dst := some 4, op := .mv (.c (.b false)) }])
 (.seq (.reg true [{ dst := some 7, op := .fa 1 (.t 2) },
  { dst := some 8, op := .ld none (.t 7), pre := [] },
  { dst := some 9, op := .len (.t 8) },
  { dst := some 10, op := .mv (.t 1) },
  { dst := some 11, op := .call .pure (.c (.fn 11 [] [])) [.t 9, .t 10], pre := [] },
  { dst := some 12, op := .fa 1 (.t 2) },
  { dst := some 13, op := .ld none (.t 12), pre := [] },
  { dst := some 14, op := .len (.t 13) },
  { dst := some 15, op := .mv (.t 1) },
  { dst := some 16, op := .call .pure (.c (.fn 27 [] [])) [.t 14, .t 15], pre := [] },
  { dst := some 5, op := .mv (.t 11) },
  { dst := some 6, op := .mv (.t 16) }])
 (.seq (.reg true [{ dst := some 17, op := .ld (some 8) (.t 2), pre := [] },
  { dst := some 18, op := .call .pure (.c (.fn 48 [] [])) [.t 17], pre := [] },
  { dst := some 19, op := .ld (some 8) (.t 2), pre := [] },
  { dst := some 20, op := .call .pure (.c (.fn 69 [] [])) [.t 19], pre := [] },
  { dst := some 21, op := .call .pure (.c (.fn 68 [] [])) [.t 18, .t 20], pre := [] },
  { dst := some 22, op := .mv (.t 21) },
  { dst := some 23, op := .ld (some 8) (.t 2), grd := some (22, true), pre := [] },
  { dst := some 24, op := .call .pure (.c (.fn 49 [] [])) [.t 23], grd := some (22, true), pre := [] },
  { dst := some 25, op := .ld (some 8) (.t 2), grd := some (22, true), pre := [] },
  { dst := some 26, op := .call .pure (.c (.fn 70 [] [])) [.t 25], grd := some (22, true), pre := [] },
  { dst := some 27, op := .call .pure (.c (.fn 68 [] [])) [.t 24, .t 26], grd := some (22, true), pre := [] },
  { dst := some 28, op := .pick (.t 22) (.t 27) (.c (.b false)) },
  { dst := some 29, op := .mv (.t 28) },
  { dst := some 30, op := .ld (some 8) (.t 2), grd := some (29, true), pre := [] },
  { dst := some 31, op := .call .pure (.c (.fn 50 [] [])) [.t 30], grd := some (29, true), pre := [] },
  { dst := some 32, op := .ld (some 8) (.t 2), grd := some (29, true), pre := [] },
  { dst := some 33, op := .call .pure (.c (.fn 71 [] [])) [.t 32], grd := some (29, true), pre := [] },
  { dst := some 34, op := .call .pure (.c (.fn 68 [] [])) [.t 31, .t 33], grd := some (29, true), pre := [] },
  { dst := some 35, op := .pick (.t 29) (.t 34) (.c (.b false)) },
  { dst := some 36, op := .mv (.t 35) },
  { dst := some 37, op := .ld (some 8) (.t 2), grd := some (36, true), pre := [] },
  { dst := some 38, op := .call .pure (.c (.fn 42 [] [])) [.t 37], grd := some (36, true), pre := [] },
  { dst := some 39, op := .ld (some 8) (.t 2), grd := some (36, true), pre := [] },
  { dst := some 40, op := .call .pure (.c (.fn 72 [] [])) [.t 39], grd := some (36, true), pre := [] },
  { dst := some 41, op := .call .pure (.c (.fn 68 [] [])) [.t 38, .t 40], grd := some (36, true), pre := [] },
  { dst := some 42, op := .pick (.t 36) (.t 41) (.c (.b false)) },
  { dst := some 43, op := .mv (.t 42) },
  { dst := some 44, op := .ld (some 8) (.t 2), grd := some (43, true), pre := [] },
  { dst := some 45, op := .call .pure (.c (.fn 41 [] [])) [.t 44], grd := some (43, true), pre := [] },
  { dst := some 46, op := .ld (some 8) (.t 2), grd := some (43, true), pre := [] },
  { dst := some 47, op := .call .pure (.c (.fn 73 [] [])) [.t 46], grd := some (43, true), pre := [] },
  { dst := some 48, op := .call .pure (.c (.fn 68 [] [])) [.t 45, .t 47], grd := some (43, true), pre := [] },
  { dst := some 49, op := .pick (.t 43) (.t 48) (.c (.b false)) },
  { dst := some 50, op := .mv (.t 49) },
  { dst := some 51, op := .ld (some 8) (.t 2), grd := some (50, true), pre := [] },
  { dst := some 52, op := .mv (.t 5), grd := some (50, true) },
  { dst := some 53, op := .call .pure (.c (.fn 39 [] [])) [.t 51, .t 52], grd := some (50, true), pre := [] },
  { dst := some 54, op := .ld (some 8) (.t 2), grd := some (50, true), pre := [] },
  { dst := some 55, op := .mv (.t 6), grd := some (50, true) },
  { dst := some 56, op := .call .pure (.c (.fn 74 [] [])) [.t 54, .t 55], grd := some (50, true), pre := [] },
  { dst := some 57, op := .call .pure (.c (.fn 68 [] [])) [.t 53, .t 56], grd := some (50, true), pre := [] },
  { dst := some 58, op := .pick (.t 50) (.t 57) (.c (.b false)) },
  { dst := some 59, op := .mv (.t 58) },
  { dst := some 60, op := .ld (some 8) (.t 2), grd := some (59, true), pre := [] },
  { dst := some 61, op := .mv (.t 5), grd := some (59, true) },
  { dst := some 62, op := .call .pure (.c (.fn 40 [] [])) [.t 60, .t 61], grd := some (59, true), pre := [] },
  { dst := some 63, op := .ld (some 8) (.t 2), grd := some (59, true), pre := [] },
  { dst := some 64, op := .mv (.t 6), grd := some (59, true) },
  { dst := some 65, op := .call .pure (.c (.fn 75 [] [])) [.t 63, .t 64], grd := some (59, true), pre := [] },
  { dst := some 66, op := .call .pure (.c (.fn 68 [] [])) [.t 62, .t 65], grd := some (59, true), pre := [] },
  { dst := some 67, op := .pick (.t 59) (.t 66) (.c (.b false)) },
  { dst := some 4, op := .mv (.t 67) }])
 .ret))) }
def A_xlaw09_one : AFun := { res := [.cell 4 (some 8), .t 5], body := (.seq (.reg false [{ dst := some 4, op := .new ([.i .i64 0] ++ List.replicate 7 (.sl [] 0 .rig)) },
  { dst := some 5, op := .mv (.c (.b false)) }])
 (.seq (.reg false [{ dst := some 9, op := .mv (.t 0) },
  { dst := some 10, op := .call .pure (.c (.fn 76 [] [])) [.t 9] },
  { dst := some 6, op := .new ([.i .i64 0, .sl [] 0 .rig]) },
  { dst := none, op := .st 2 (.t 6) (.t 10) }])
 (.seq (.seq (.reg false [{ dst := some 11, op := .ld (some 2) (.t 6) },
  { dst := some 12, op := .call .pure (.c (.fn 77 [] [])) [.t 11] },
  { dst := some 13, op := .bin .gtr (.t 12) (.c (.i .i64 4)) }])
 (.cond (.t 13) (.seq (.reg false [{ dst := some 14, op := .build ([.i .i64 0] ++ List.replicate 7 (.sl [] 0 .rig)) [] },
  { dst := none, op := .st 8 (.t 4) (.t 14) },
  { dst := some 5, op := .mv (.c (.b false)) }])
 .ret)
 .skip))
 (.seq (.reg true [{ dst := some 16, op := .ld (some 2) (.t 6), pre := [] },
  { dst := some 17, op := .call .pure (.c (.fn 79 [] [])) [], pre := [] },
  { dst := some 18, op := .call .pure (.c (.fn 78 [] [])) [.t 16, .t 17], pre := [] },
  { dst := some 15, op := .mv (.t 18) },
  { dst := some 19, op := .ext 0 (.t 15) },
  { dst := some 20, op := .ext 1 (.t 15) },
  { dst := some 7, op := .mv (.t 19) },
  { dst := some 8, op := .mv (.t 20) }])
 (.seq (.seq (.reg false [{ dst := some 21, op := .mv (.t 7) },
  { dst := some 22, op := .len (.t 21) },
  { dst := some 23, op := .bin .eql (.t 22) (.c (.i .i64 0)) }])
 (.cond (.t 23) (.seq (.reg false [{ dst := some 24, op := .build ([.i .i64 0] ++ List.replicate 7 (.sl [] 0 .rig)) [] },
  { dst := none, op := .st 8 (.t 4) (.t 24) },
  { dst := some 5, op := .mv (.c (.b false)) }])
 .ret)
 .skip))
 (.seq (.reg false [{ dst := some 25, op := .mv (.t 7) },
  { dst := some 26, op := .mv (.t 1) },
  { dst := some 27, op := .mv (.t 7) },
  { dst := some 28, op := .len (.t 27) },
  { dst := some 29, op := .call .pure (.c (.fn 10 [] [])) [.t 26, .t 28] },
  { dst := some 30, op := .ia 8 (.t 25) (.t 29) },
  { dst := some 31, op := .ld (some 8) (.t 30) },
  { dst := none, op := .st 8 (.t 4) (.t 31) },
  { dst := some 5, op := .mv (.c (.b true)) }])
 .ret)))))) }
def A_xlaw09_two : AFun := { res := [.cell 0 (some 8)], body := (.seq (.reg false [{ dst := some 0, op := .new ([.i .i64 0] ++ List.replicate 7 (.sl [] 0 .rig)) }])
 (.seq (.reg false [{ dst := some 1, op := .build (List.replicate 5 (.i .i64 0) ++ [.b false]) [(1, 1, .c (.i .i64 2))] },
  { dst := some 2, op := .build (List.replicate 5 (.i .i64 0) ++ [.b false]) [(0, 1, .c (.i .i64 1)), (1, 1, .c (.i .i64 1))] },
  { dst := some 3, op := .bsl true 2 (List.replicate 5 (.i .i64 0) ++ [.b false] ++ List.replicate 5 (.i .i64 0) ++ [.b false]) [(0, 6, .t 1), (6, 6, .t 2)] },
  { dst := some 4, op := .bsl true 2 ([.i .i64 0, .i .i64 0]) [(0, 1, .c (.i .i64 (-1))), (1, 1, .c (.i .i64 0))] },
  { dst := some 5, op := .bsl true 1 ([.i .i64 0]) [(0, 1, .c (.i .i64 0))] },
  { dst := some 6, op := .bsl true 1 ([.sl [] 0 .rig]) [(0, 1, .t 5)] },
  { dst := some 7, op := .build ([.i .i64 0] ++ List.replicate 7 (.sl [] 0 .rig)) [(0, 1, .c (.i .i64 1)), (1, 1, .t 3), (2, 1, .t 4), (3, 1, .t 6)] },
  { dst := none, op := .st 8 (.t 0) (.t 7) }])
 .ret)) }
def A_xlaw09_same : AFun := { res := [.t 4], body := (.seq (.reg false [{ dst := some 4, op := .mv (.c (.b false)) }])
 (.seq (.reg true [{ dst := some 5, op := .mv (.t 0) },
  { dst := some 6, op := .eqn true (.t 5) (.c (.nilp)) },
  { dst := some 7, op := .mv (.t 6) },
  { dst := some 8, op := .mv (.t 0), grd := some (7, true) },
  { dst := some 9, op := .call .pure (.c (.fn 17 [] [])) [.t 8], grd := some (7, true), pre := [] },
  { dst := some 10, op := .mv (.t 1), grd := some (7, true) },
  { dst := some 11, op := .nilck (.t 10), grd := some (7, true) },
  { dst := some 12, op := .fa 0 (.t 11), grd := some (7, true) },
  { dst := some 13, op := .ld none (.t 12), grd := some (7, true), pre := [] },
  { dst := some 14, op := .bin .eql (.t 9) (.t 13), grd := some (7, true) },
  { dst := some 15, op := .pick (.t 7) (.t 14) (.c (.b false)) },
  { dst := some 16, op := .mv (.t 15) },
  { dst := some 17, op := .mv (.t 0), grd := some (16, true) },
  { dst := some 18, op := .call .pure (.c (.fn 15 [] [])) [.t 17], grd := some (16, true), pre := [] },
  { dst := some 19, op := .mv (.t 1), grd := some (16, true) },
  { dst := some 20, op := .call .pure (.c (.fn 56 [] [])) [.t 19], grd := some (16, true), pre := [] },
  { dst := some 21, op := .call .pure (.c (.fn 55 [] [])) [.t 18, .t 20], grd := some (16, true), pre := [] },
  { dst := some 22, op := .pick (.t 16) (.t 21) (.c (.b false)) },
  { dst := some 4, op := .mv (.t 22) }])
 .ret)) }
end Go.Ab
end
section
namespace Go.Ab
def A_xref01_New : AFun := { res := [.t 4], body := (.seq (.reg false [{ dst := some 4, op := .mv (.c (.nilp)) }])
 (.seq (.reg false [{ dst := some 9, op := .mv (.t 0) },
  { dst := some 10, op := .mx (.t 9) (.c (.i .i64 0)) },
  { dst := some 11, op := .mn (.t 10) (.c (.i .i64 40)) },
  { dst := some 12, op := .build ([.i .i64 0] ++ List.replicate 1600 (.b false)) [(0, 1, .t 11)] },
  { dst := some 13, op := .box (.t 12) },
  { dst := some 5, op := .mv (.t 13) }])
 (.seq (.seq (.reg false [{ dst := some 6, op := .mv (.c (.i .i64 0)) }])
 (.blk 0 (.loop (.seq (.seq (.reg false [{ dst := some 14, op := .mv (.t 6) },
  { dst := some 15, op := .mv (.t 1) },
  { dst := some 16, op := .len (.t 15) },
  { dst := some 17, op := .bin .lss (.t 14) (.t 16) }])
 (.cond (.t 17) .skip
 (.ext 0)))
 (.seq (.blk 1 (.seq (.reg true [{ dst := some 20, op := .mv (.t 1) },
  { dst := some 21, op := .mv (.t 6) },
  { dst := some 22, op := .ia 2 (.t 20) (.t 21) },
  { dst := some 23, op := .fa 0 (.t 22) },
  { dst := some 24, op := .ld none (.t 23), pre := [] },
  { dst := some 25, op := .mv (.t 1) },
  { dst := some 26, op := .mv (.t 6) },
  { dst := some 27, op := .ia 2 (.t 25) (.t 26) },
  { dst := some 28, op := .fa 1 (.t 27) },
  { dst := some 29, op := .ld none (.t 28), pre := [] },
  { dst := some 7, op := .mv (.t 24) },
  { dst := some 8, op := .mv (.t 29) }])
 (.seq (.reg false [{ dst := some 30, op := .mv (.t 7) },
  { dst := some 31, op := .bin .geq (.t 30) (.c (.i .i64 0)) },
  { dst := some 32, op := .mv (.t 31) },
  { dst := some 33, op := .mv (.t 8), grd := some (32, true) },
  { dst := some 34, op := .bin .geq (.t 33) (.c (.i .i64 0)), grd := some (32, true) },
  { dst := some 35, op := .pick (.t 32) (.t 34) (.c (.b false)) },
  { dst := some 36, op := .mv (.t 35) },
  { dst := some 37, op := .mv (.t 7), grd := some (36, true) },
  { dst := some 38, op := .mv (.t 5), grd := some (36, true) },
  { dst := some 39, op := .nilck (.t 38), grd := some (36, true) },
  { dst := some 40, op := .fa 0 (.t 39), grd := some (36, true) },
  { dst := some 41, op := .ld none (.t 40), grd := some (36, true) },
  { dst := some 42, op := .bin .lss (.t 37) (.t 41), grd := some (36, true) },
  { dst := some 43, op := .pick (.t 36) (.t 42) (.c (.b false)) },
  { dst := some 44, op := .mv (.t 43) },
  { dst := some 45, op := .mv (.t 8), grd := some (44, true) },
  { dst := some 46, op := .mv (.t 5), grd := some (44, true) },
  { dst := some 47, op := .nilck (.t 46), grd := some (44, true) },
  { dst := some 48, op := .fa 0 (.t 47), grd := some (44, true) },
  { dst := some 49, op := .ld none (.t 48), grd := some (44, true) },
  { dst := some 50, op := .bin .lss (.t 45) (.t 49), grd := some (44, true) },
  { dst := some 51, op := .pick (.t 44) (.t 50) (.c (.b false)) }])
 (.cond (.t 51) (.reg false [{ dst := some 52, op := .mv (.t 5) },
  { dst := some 53, op := .mv (.t 7) },
  { dst := some 54, op := .mv (.t 8) },
  { dst := some 55, op := .nilck (.t 52) },
  { dst := some 56, op := .fa 1 (.t 55) },
  { dst := some 57, op := .iaa 40 40 (.t 56) (.t 53) },
  { dst := some 58, op := .iaa 40 1 (.t 57) (.t 54) },
  { dst := none, op := .st 1 (.t 58) (.c (.b true)) }])
 .skip))))
 (.reg false [{ dst := some 18, op := .mv (.t 6) },
  { dst := some 19, op := .bin .add (.t 18) (.c (.i .i64 1)) },
  { dst := some 6, op := .mv (.t 19) }]))))))
 (.seq (.reg false [{ dst := some 59, op := .mv (.t 5) },
  { dst := some 4, op := .mv (.t 59) }])
 .ret)))) }
def A_xref01_R_Or : AFun := { res := [.t 4], body := (.seq (.reg false [{ dst := some 4, op := .mv (.c (.nilp)) }])
 (.seq (.reg true [{ dst := some 8, op := .mv (.t 0) },
  { dst := some 9, op := .nilck (.t 8) },
  { dst := some 10, op := .fa 0 (.t 9) },
  { dst := some 11, op := .ld none (.t 10), pre := [] },
  { dst := some 12, op := .mv (.t 1) },
  { dst := some 13, op := .nilck (.t 12) },
  { dst := some 14, op := .fa 0 (.t 13) },
  { dst := some 15, op := .ld none (.t 14), pre := [] },
  { dst := some 16, op := .mx (.t 11) (.t 15) },
  { dst := some 17, op := .call .thaw (.c (.fn 27 [] [])) [.t 16, .c (.sl [] 0 .rig)], pre := [] },
  { dst := some 5, op := .mv (.t 17) }])
 (.seq (.seq (.reg false [{ dst := some 6, op := .mv (.c (.i .i64 0)) }])
 (.blk 0 (.loop (.seq (.seq (.reg false [{ dst := some 18, op := .mv (.t 6) },
  { dst := some 19, op := .mv (.t 5) },
  { dst := some 20, op := .nilck (.t 19) },
  { dst := some 21, op := .fa 0 (.t 20) },
  { dst := some 22, op := .ld none (.t 21) },
  { dst := some 23, op := .bin .lss (.t 18) (.t 22) }])
 (.cond (.t 23) .skip
 (.ext 0)))
 (.seq (.blk 1 (.seq (.reg false [{ dst := some 7, op := .mv (.c (.i .i64 0)) }])
 (.blk 2 (.loop (.seq (.seq (.reg false [{ dst := some 26, op := .mv (.t 7) },
  { dst := some 27, op := .mv (.t 5) },
  { dst := some 28, op := .nilck (.t 27) },
  { dst := some 29, op := .fa 0 (.t 28) },
  { dst := some 30, op := .ld none (.t 29) },
  { dst := some 31, op := .bin .lss (.t 26) (.t 30) }])
 (.cond (.t 31) .skip
 (.ext 2)))
 (.seq (.blk 3 (.reg true [{ dst := some 34, op := .mv (.t 5) },
  { dst := some 35, op := .mv (.t 6) },
  { dst := some 36, op := .mv (.t 7) },
  { dst := some 37, op := .mv (.t 0) },
  { dst := some 38, op := .mv (.t 6) },
  { dst := some 39, op := .mv (.t 7) },
  { dst := some 40, op := .nilck (.t 37) },
  { dst := some 41, op := .fa 1 (.t 40) },
  { dst := some 42, op := .iaa 40 40 (.t 41) (.t 38) },
  { dst := some 43, op := .iaa 40 1 (.t 42) (.t 39) },
  { dst := some 44, op := .ld none (.t 43), pre := [] },
  { dst := some 45, op := .mv (.t 44) },
  { dst := some 46, op := .mv (.t 1), grd := some (45, false) },
  { dst := some 47, op := .mv (.t 6), grd := some (45, false) },
  { dst := some 48, op := .mv (.t 7), grd := some (45, false) },
  { dst := some 49, op := .nilck (.t 46), grd := some (45, false) },
  { dst := some 50, op := .fa 1 (.t 49), grd := some (45, false) },
  { dst := some 51, op := .iaa 40 40 (.t 50) (.t 47), grd := some (45, false) },
  { dst := some 52, op := .iaa 40 1 (.t 51) (.t 48), grd := some (45, false) },
  { dst := some 53, op := .ld none (.t 52), grd := some (45, false), pre := [] },
  { dst := some 54, op := .pick (.t 45) (.c (.b true)) (.t 53) },
  { dst := some 55, op := .nilck (.t 34) },
  { dst := some 56, op := .fa 1 (.t 55) },
  { dst := some 57, op := .iaa 40 40 (.t 56) (.t 35) },
  { dst := some 58, op := .iaa 40 1 (.t 57) (.t 36) },
  { dst := none, op := .st 1 (.t 58) (.t 54), pre := [] }]))
 (.reg false [{ dst := some 32, op := .mv (.t 7) },
  { dst := some 33, op := .bin .add (.t 32) (.c (.i .i64 1)) },
  { dst := some 7, op := .mv (.t 33) }])))))))
 (.reg false [{ dst := some 24, op := .mv (.t 6) },
  { dst := some 25, op := .bin .add (.t 24) (.c (.i .i64 1)) },
  { dst := some 6, op := .mv (.t 25) }]))))))
 (.seq (.reg false [{ dst := some 59, op := .mv (.t 5) },
  { dst := some 4, op := .mv (.t 59) }])
 .ret)))) }
def A_xref01_R_And : AFun := { res := [.t 4], body := (.seq (.reg false [{ dst := some 4, op := .mv (.c (.nilp)) }])
 (.seq (.reg true [{ dst := some 8, op := .mv (.t 0) },
  { dst := some 9, op := .nilck (.t 8) },
  { dst := some 10, op := .fa 0 (.t 9) },
  { dst := some 11, op := .ld none (.t 10), pre := [] },
  { dst := some 12, op := .mv (.t 1) },
  { dst := some 13, op := .nilck (.t 12) },
  { dst := some 14, op := .fa 0 (.t 13) },
  { dst := some 15, op := .ld none (.t 14), pre := [] },
  { dst := some 16, op := .mx (.t 11) (.t 15) },
  { dst := some 17, op := .call .thaw (.c (.fn 27 [] [])) [.t 16, .c (.sl [] 0 .rig)], pre := [] },
  { dst := some 5, op := .mv (.t 17) }])
 (.seq (.seq (.reg false [{ dst := some 6, op := .mv (.c (.i .i64 0)) }])
 (.blk 0 (.loop (.seq (.seq (.reg false [{ dst := some 18, op := .mv (.t 6) },
  { dst := some 19, op := .mv (.t 5) },
  { dst := some 20, op := .nilck (.t 19) },
  { dst := some 21, op := .fa 0 (.t 20) },
  { dst := some 22, op := .ld none (.t 21) },
  { dst := some 23, op := .bin .lss (.t 18) (.t 22) }])
 (.cond (.t 23) .skip
 (.ext 0)))
 (.seq (.blk 1 (.seq (.reg false [{ dst := some 7, op := .mv (.c (.i .i64 0)) }])
 (.blk 2 (.loop (.seq (.seq (.reg false [{ dst := some 26, op := .mv (.t 7) },
  { dst := some 27, op := .mv (.t 5) },
  { dst := some 28, op := .nilck (.t 27) },
  { dst := some 29, op := .fa 0 (.t 28) },
  { dst := some 30, op := .ld none (.t 29) },
  { dst := some 31, op := .bin .lss (.t 26) (.t 30) }])
 (.cond (.t 31) .skip
 (.ext 2)))
 (.seq (.blk 3 (.reg true [{ dst := some 34, op := .mv (.t 5) },
  { dst := some 35, op := .mv (.t 6) },
  { dst := some 36, op := .mv (.t 7) },
  { dst := some 37, op := .mv (.t 0) },
  { dst := some 38, op := .mv (.t 6) },
  { dst := some 39, op := .mv (.t 7) },
  { dst := some 40, op := .nilck (.t 37) },
  { dst := some 41, op := .fa 1 (.t 40) },
  { dst := some 42, op := .iaa 40 40 (.t 41) (.t 38) },
  { dst := some 43, op := .iaa 40 1 (.t 42) (.t 39) },
  { dst := some 44, op := .ld none (.t 43), pre := [] },
  { dst := some 45, op := .mv (.t 44) },
  { dst := some 46, op := .mv (.t 1), grd := some (45, true) },
  { dst := some 47, op := .mv (.t 6), grd := some (45, true) },
  { dst := some 48, op := .mv (.t 7), grd := some (45, true) },
  { dst := some 49, op := .nilck (.t 46), grd := some (45, true) },
  { dst := some 50, op := .fa 1 (.t 49), grd := some (45, true) },
  { dst := some 51, op := .iaa 40 40 (.t 50) (.t 47), grd := some (45, true) },
  { dst := some 52, op := .iaa 40 1 (.t 51) (.t 48), grd := some (45, true) },
  { dst := some 53, op := .ld none (.t 52), grd := some (45, true), pre := [] },
  { dst := some 54, op := .pick (.t 45) (.t 53) (.c (.b false)) },
  { dst := some 55, op := .nilck (.t 34) },
  { dst := some 56, op := .fa 1 (.t 55) },
  { dst := some 57, op := .iaa 40 40 (.t 56) (.t 35) },
  { dst := some 58, op := .iaa 40 1 (.t 57) (.t 36) },
  { dst := none, op := .st 1 (.t 58) (.t 54), pre := [] }]))
 (.reg false [{ dst := some 32, op := .mv (.t 7) },
  { dst := some 33, op := .bin .add (.t 32) (.c (.i .i64 1)) },
  { dst := some 7, op := .mv (.t 33) }])))))))
 (.reg false [{ dst := some 24, op := .mv (.t 6) },
  { dst := some 25, op := .bin .add (.t 24) (.c (.i .i64 1)) },
  { dst := some 6, op := .mv (.t 25) }]))))))
 (.seq (.reg false [{ dst := some 59, op := .mv (.t 5) },
  { dst := some 4, op := .mv (.t 59) }])
 .ret)))) }
def A_xref01_R_Then : AFun := { res := [.t 4], body := (.seq (.reg false [{ dst := some 4, op := .mv (.c (.nilp)) }])
 (.seq (.reg true [{ dst := some 9, op := .mv (.t 0) },
  { dst := some 10, op := .nilck (.t 9) },
  { dst := some 11, op := .fa 0 (.t 10) },
  { dst := some 12, op := .ld none (.t 11), pre := [] },
  { dst := some 13, op := .mv (.t 1) },
  { dst := some 14, op := .nilck (.t 13) },
  { dst := some 15, op := .fa 0 (.t 14) },
  { dst := some 16, op := .ld none (.t 15), pre := [] },
  { dst := some 17, op := .mx (.t 12) (.t 16) },
  { dst := some 18, op := .call .thaw (.c (.fn 27 [] [])) [.t 17, .c (.sl [] 0 .rig)], pre := [] },
  { dst := some 5, op := .mv (.t 18) }])
 (.seq (.seq (.reg false [{ dst := some 6, op := .mv (.c (.i .i64 0)) }])
 (.blk 0 (.loop (.seq (.seq (.reg false [{ dst := some 19, op := .mv (.t 6) },
  { dst := some 20, op := .mv (.t 5) },
  { dst := some 21, op := .nilck (.t 20) },
  { dst := some 22, op := .fa 0 (.t 21) },
  { dst := some 23, op := .ld none (.t 22) },
  { dst := some 24, op := .bin .lss (.t 19) (.t 23) }])
 (.cond (.t 24) .skip
 (.ext 0)))
 (.seq (.blk 1 (.seq (.reg false [{ dst := some 7, op := .mv (.c (.i .i64 0)) }])
 (.blk 2 (.loop (.seq (.seq (.reg false [{ dst := some 27, op := .mv (.t 7) },
  { dst := some 28, op := .mv (.t 5) },
  { dst := some 29, op := .nilck (.t 28) },
  { dst := some 30, op := .fa 0 (.t 29) },
  { dst := some 31, op := .ld none (.t 30) },
  { dst := some 32, op := .bin .lss (.t 27) (.t 31) }])
 (.cond (.t 32) .skip
 (.ext 2)))
 (.seq (.blk 3 (.seq (.reg false [{ dst := some 8, op := .mv (.c (.i .i64 0)) }])
 (.blk 4 (.loop (.seq (.seq (.reg false [{ dst := some 35, op := .mv (.t 8) },
  { dst := some 36, op := .mv (.t 5) },
  { dst := some 37, op := .nilck (.t 36) },
  { dst := some 38, op := .fa 0 (.t 37) },
  { dst := some 39, op := .ld none (.t 38) },
  { dst := some 40, op := .bin .lss (.t 35) (.t 39) },
  { dst := some 41, op := .mv (.t 40) },
  { dst := some 42, op := .mv (.t 0), grd := some (41, true) },
  { dst := some 43, op := .mv (.t 6), grd := some (41, true) },
  { dst := some 44, op := .mv (.t 7), grd := some (41, true) },
  { dst := some 45, op := .nilck (.t 42), grd := some (41, true) },
  { dst := some 46, op := .fa 1 (.t 45), grd := some (41, true) },
  { dst := some 47, op := .iaa 40 40 (.t 46) (.t 43), grd := some (41, true) },
  { dst := some 48, op := .iaa 40 1 (.t 47) (.t 44), grd := some (41, true) },
  { dst := some 49, op := .ld none (.t 48), grd := some (41, true) },
  { dst := some 50, op := .pick (.t 41) (.t 49) (.c (.b false)) }])
 (.cond (.t 50) .skip
 (.ext 4)))
 (.seq (.blk 5 (.reg true [{ dst := some 53, op := .mv (.t 5) },
  { dst := some 54, op := .mv (.t 6) },
  { dst := some 55, op := .mv (.t 8) },
  { dst := some 56, op := .mv (.t 5) },
  { dst := some 57, op := .mv (.t 6) },
  { dst := some 58, op := .mv (.t 8) },
  { dst := some 59, op := .nilck (.t 56) },
  { dst := some 60, op := .fa 1 (.t 59) },
  { dst := some 61, op := .iaa 40 40 (.t 60) (.t 57) },
  { dst := some 62, op := .iaa 40 1 (.t 61) (.t 58) },
  { dst := some 63, op := .ld none (.t 62), pre := [] },
  { dst := some 64, op := .mv (.t 63) },
  { dst := some 65, op := .mv (.t 1), grd := some (64, false) },
  { dst := some 66, op := .mv (.t 7), grd := some (64, false) },
  { dst := some 67, op := .mv (.t 8), grd := some (64, false) },
  { dst := some 68, op := .nilck (.t 65), grd := some (64, false) },
  { dst := some 69, op := .fa 1 (.t 68), grd := some (64, false) },
  { dst := some 70, op := .iaa 40 40 (.t 69) (.t 66), grd := some (64, false) },
  { dst := some 71, op := .iaa 40 1 (.t 70) (.t 67), grd := some (64, false) },
  { dst := some 72, op := .ld none (.t 71), grd := some (64, false), pre := [] },
  { dst := some 73, op := .pick (.t 64) (.c (.b true)) (.t 72) },
  { dst := some 74, op := .nilck (.t 53) },
  { dst := some 75, op := .fa 1 (.t 74) },
  { dst := some 76, op := .iaa 40 40 (.t 75) (.t 54) },
  { dst := some 77, op := .iaa 40 1 (.t 76) (.t 55) },
  { dst := none, op := .st 1 (.t 77) (.t 73), pre := [] }]))
 (.reg false [{ dst := some 51, op := .mv (.t 8) },
  { dst := some 52, op := .bin .add (.t 51) (.c (.i .i64 1)) },
  { dst := some 8, op := .mv (.t 52) }])))))))
 (.reg false [{ dst := some 33, op := .mv (.t 7) },
  { dst := some 34, op := .bin .add (.t 33) (.c (.i .i64 1)) },
  { dst := some 7, op := .mv (.t 34) }])))))))
 (.reg false [{ dst := some 25, op := .mv (.t 6) },
  { dst := some 26, op := .bin .add (.t 25) (.c (.i .i64 1)) },
  { dst := some 6, op := .mv (.t 26) }]))))))
 (.seq (.reg false [{ dst := some 78, op := .mv (.t 5) },
  { dst := some 4, op := .mv (.t 78) }])
 .ret)))) }
def A_xref01_R_Back : AFun := { res := [.t 2], body := (.seq (.reg false [{ dst := some 2, op := .mv (.c (.nilp)) }])
 (.seq (.reg false [{ dst := some 6, op := .mv (.t 0) },
  { dst := some 7, op := .nilck (.t 6) },
  { dst := some 8, op := .fa 0 (.t 7) },
  { dst := some 9, op := .ld none (.t 8) },
  { dst := some 10, op := .call .thaw (.c (.fn 27 [] [])) [.t 9, .c (.sl [] 0 .rig)] },
  { dst := some 3, op := .mv (.t 10) }])
 (.seq (.seq (.reg false [{ dst := some 4, op := .mv (.c (.i .i64 0)) }])
 (.blk 0 (.loop (.seq (.seq (.reg false [{ dst := some 11, op := .mv (.t 4) },
  { dst := some 12, op := .mv (.t 3) },
  { dst := some 13, op := .nilck (.t 12) },
  { dst := some 14, op := .fa 0 (.t 13) },
  { dst := some 15, op := .ld none (.t 14) },
  { dst := some 16, op := .bin .lss (.t 11) (.t 15) }])
 (.cond (.t 16) .skip
 (.ext 0)))
 (.seq (.blk 1 (.seq (.reg false [{ dst := some 5, op := .mv (.c (.i .i64 0)) }])
 (.blk 2 (.loop (.seq (.seq (.reg false [{ dst := some 19, op := .mv (.t 5) },
  { dst := some 20, op := .mv (.t 3) },
  { dst := some 21, op := .nilck (.t 20) },
  { dst := some 22, op := .fa 0 (.t 21) },
  { dst := some 23, op := .ld none (.t 22) },
  { dst := some 24, op := .bin .lss (.t 19) (.t 23) }])
 (.cond (.t 24) .skip
 (.ext 2)))
 (.seq (.blk 3 (.reg true [{ dst := some 27, op := .mv (.t 3) },
  { dst := some 28, op := .mv (.t 5) },
  { dst := some 29, op := .mv (.t 4) },
  { dst := some 30, op := .mv (.t 0) },
  { dst := some 31, op := .mv (.t 4) },
  { dst := some 32, op := .mv (.t 5) },
  { dst := some 33, op := .nilck (.t 30) },
  { dst := some 34, op := .fa 1 (.t 33) },
  { dst := some 35, op := .iaa 40 40 (.t 34) (.t 31) },
  { dst := some 36, op := .iaa 40 1 (.t 35) (.t 32) },
  { dst := some 37, op := .ld none (.t 36), pre := [] },
  { dst := some 38, op := .nilck (.t 27) },
  { dst := some 39, op := .fa 1 (.t 38) },
  { dst := some 40, op := .iaa 40 40 (.t 39) (.t 28) },
  { dst := some 41, op := .iaa 40 1 (.t 40) (.t 29) },
  { dst := none, op := .st 1 (.t 41) (.t 37), pre := [] }]))
 (.reg false [{ dst := some 25, op := .mv (.t 5) },
  { dst := some 26, op := .bin .add (.t 25) (.c (.i .i64 1)) },
  { dst := some 5, op := .mv (.t 26) }])))))))
 (.reg false [{ dst := some 17, op := .mv (.t 4) },
  { dst := some 18, op := .bin .add (.t 17) (.c (.i .i64 1)) },
  { dst := some 4, op := .mv (.t 18) }]))))))
 (.seq (.reg false [{ dst := some 42, op := .mv (.t 3) },
  { dst := some 2, op := .mv (.t 42) }])
 .ret)))) }
def A_xref01_R_Plus : AFun := { res := [.t 2], body := (.seq (.reg false [{ dst := some 2, op := .mv (.c (.nilp)) }])
 (.seq (.reg false [{ dst := some 7, op := .mv (.t 0) },
  { dst := some 8, op := .nilck (.t 7) },
  { dst := some 9, op := .fa 0 (.t 8) },
  { dst := some 10, op := .ld none (.t 9) },
  { dst := some 11, op := .call .thaw (.c (.fn 27 [] [])) [.t 10, .c (.sl [] 0 .rig)] },
  { dst := some 3, op := .mv (.t 11) }])
 (.seq (.reg false [{ dst := some 12, op := .mv (.t 3) },
  { dst := some 13, op := .mv (.t 0) },
  { dst := some 14, op := .nilck (.t 13) },
  { dst := some 15, op := .fa 1 (.t 14) },
  { dst := some 16, op := .ld (some 1600) (.t 15) },
  { dst := some 17, op := .nilck (.t 12) },
  { dst := some 18, op := .fa 1 (.t 17) },
  { dst := none, op := .st 1600 (.t 18) (.t 16) }])
 (.seq (.seq (.reg false [{ dst := some 4, op := .mv (.c (.i .i64 0)) }])
 (.blk 0 (.loop (.seq (.seq (.reg false [{ dst := some 19, op := .mv (.t 4) },
  { dst := some 20, op := .mv (.t 3) },
  { dst := some 21, op := .nilck (.t 20) },
  { dst := some 22, op := .fa 0 (.t 21) },
  { dst := some 23, op := .ld none (.t 22) },
  { dst := some 24, op := .bin .lss (.t 19) (.t 23) }])
 (.cond (.t 24) .skip
 (.ext 0)))
 (.seq (.blk 1 (.seq (.reg false [{ dst := some 5, op := .mv (.c (.i .i64 0)) }])
 (.blk 2 (.loop (.seq (.seq (.reg false [{ dst := some 27, op := .mv (.t 5) },
  { dst := some 28, op := .mv (.t 3) },
  { dst := some 29, op := .nilck (.t 28) },
  { dst := some 30, op := .fa 0 (.t 29) },
  { dst := some 31, op := .ld none (.t 30) },
  { dst := some 32, op := .bin .lss (.t 27) (.t 31) }])
 (.cond (.t 32) .skip
 (.ext 2)))
 (.seq (.blk 3 (.seq (.reg false [{ dst := some 6, op := .mv (.c (.i .i64 0)) }])
 (.blk 4 (.loop (.seq (.seq (.reg false [{ dst := some 35, op := .mv (.t 6) },
  { dst := some 36, op := .mv (.t 3) },
  { dst := some 37, op := .nilck (.t 36) },
  { dst := some 38, op := .fa 0 (.t 37) },
  { dst := some 39, op := .ld none (.t 38) },
  { dst := some 40, op := .bin .lss (.t 35) (.t 39) },
  { dst := some 41, op := .mv (.t 40) },
  { dst := some 42, op := .mv (.t 3), grd := some (41, true) },
  { dst := some 43, op := .mv (.t 5), grd := some (41, true) },
  { dst := some 44, op := .mv (.t 4), grd := some (41, true) },
  { dst := some 45, op := .nilck (.t 42), grd := some (41, true) },
  { dst := some 46, op := .fa 1 (.t 45), grd := some (41, true) },
  { dst := some 47, op := .iaa 40 40 (.t 46) (.t 43), grd := some (41, true) },
  { dst := some 48, op := .iaa 40 1 (.t 47) (.t 44), grd := some (41, true) },
  { dst := some 49, op := .ld none (.t 48), grd := some (41, true) },
  { dst := some 50, op := .pick (.t 41) (.t 49) (.c (.b false)) }])
 (.cond (.t 50) .skip
 (.ext 4)))
 (.seq (.blk 5 (.reg true [{ dst := some 53, op := .mv (.t 3) },
  { dst := some 54, op := .mv (.t 5) },
  { dst := some 55, op := .mv (.t 6) },
  { dst := some 56, op := .mv (.t 3) },
  { dst := some 57, op := .mv (.t 5) },
  { dst := some 58, op := .mv (.t 6) },
  { dst := some 59, op := .nilck (.t 56) },
  { dst := some 60, op := .fa 1 (.t 59) },
  { dst := some 61, op := .iaa 40 40 (.t 60) (.t 57) },
  { dst := some 62, op := .iaa 40 1 (.t 61) (.t 58) },
  { dst := some 63, op := .ld none (.t 62), pre := [] },
  { dst := some 64, op := .mv (.t 63) },
  { dst := some 65, op := .mv (.t 3), grd := some (64, false) },
  { dst := some 66, op := .mv (.t 4), grd := some (64, false) },
  { dst := some 67, op := .mv (.t 6), grd := some (64, false) },
  { dst := some 68, op := .nilck (.t 65), grd := some (64, false) },
  { dst := some 69, op := .fa 1 (.t 68), grd := some (64, false) },
  { dst := some 70, op := .iaa 40 40 (.t 69) (.t 66), grd := some (64, false) },
  { dst := some 71, op := .iaa 40 1 (.t 70) (.t 67), grd := some (64, false) },
  { dst := some 72, op := .ld none (.t 71), grd := some (64, false), pre := [] },
  { dst := some 73, op := .pick (.t 64) (.c (.b true)) (.t 72) },
  { dst := some 74, op := .nilck (.t 53) },
  { dst := some 75, op := .fa 1 (.t 74) },
  { dst := some 76, op := .iaa 40 40 (.t 75) (.t 54) },
  { dst := some 77, op := .iaa 40 1 (.t 76) (.t 55) },
  { dst := none, op := .st 1 (.t 77) (.t 73), pre := [] }]))
 (.reg false [{ dst := some 51, op := .mv (.t 6) },
  { dst := some 52, op := .bin .add (.t 51) (.c (.i .i64 1)) },
  { dst := some 6, op := .mv (.t 52) }])))))))
 (.reg false [{ dst := some 33, op := .mv (.t 5) },
  { dst := some 34, op := .bin .add (.t 33) (.c (.i .i64 1)) },
  { dst := some 5, op := .mv (.t 34) }])))))))
 (.reg false [{ dst := some 25, op := .mv (.t 4) },
  { dst := some 26, op := .bin .add (.t 25) (.c (.i .i64 1)) },
  { dst := some 4, op := .mv (.t 26) }]))))))
 (.seq (.reg false [{ dst := some 78, op := .mv (.t 3) },
  { dst := some 2, op := .mv (.t 78) }])
 .ret))))) }
def A_xref01_R_Maybe : AFun := { res := [.t 2], body := (.seq (.reg false [{ dst := some 2, op := .mv (.c (.nilp)) }])
 (.seq (.reg false [{ dst := some 5, op := .mv (.t 0) },
  { dst := some 6, op := .nilck (.t 5) },
  { dst := some 7, op := .fa 0 (.t 6) },
  { dst := some 8, op := .ld none (.t 7) },
  { dst := some 9, op := .call .thaw (.c (.fn 27 [] [])) [.t 8, .c (.sl [] 0 .rig)] },
  { dst := some 3, op := .mv (.t 9) }])
 (.seq (.reg false [{ dst := some 10, op := .mv (.t 3) },
  { dst := some 11, op := .mv (.t 0) },
  { dst := some 12, op := .nilck (.t 11) },
  { dst := some 13, op := .fa 1 (.t 12) },
  { dst := some 14, op := .ld (some 1600) (.t 13) },
  { dst := some 15, op := .nilck (.t 10) },
  { dst := some 16, op := .fa 1 (.t 15) },
  { dst := none, op := .st 1600 (.t 16) (.t 14) }])
 (.seq (.seq (.reg false [{ dst := some 4, op := .mv (.c (.i .i64 0)) }])
 (.blk 0 (.loop (.seq (.seq (.reg false [{ dst := some 17, op := .mv (.t 4) },
  { dst := some 18, op := .mv (.t 3) },
  { dst := some 19, op := .nilck (.t 18) },
  { dst := some 20, op := .fa 0 (.t 19) },
  { dst := some 21, op := .ld none (.t 20) },
  { dst := some 22, op := .bin .lss (.t 17) (.t 21) }])
 (.cond (.t 22) .skip
 (.ext 0)))
 (.seq (.blk 1 (.reg false [{ dst := some 25, op := .mv (.t 3) },
  { dst := some 26, op := .mv (.t 4) },
  { dst := some 27, op := .mv (.t 4) },
  { dst := some 28, op := .nilck (.t 25) },
  { dst := some 29, op := .fa 1 (.t 28) },
  { dst := some 30, op := .iaa 40 40 (.t 29) (.t 26) },
  { dst := some 31, op := .iaa 40 1 (.t 30) (.t 27) },
  { dst := none, op := .st 1 (.t 31) (.c (.b true)) }]))
 (.reg false [{ dst := some 23, op := .mv (.t 4) },
  { dst := some 24, op := .bin .add (.t 23) (.c (.i .i64 1)) },
  { dst := some 4, op := .mv (.t 24) }]))))))
 (.seq (.reg false [{ dst := some 32, op := .mv (.t 3) },
  { dst := some 2, op := .mv (.t 32) }])
 .ret))))) }
def A_xref01_SamePairs : AFun := { res := [.t 4], body := (.seq (.reg false [{ dst := some 4, op := .mv (.c (.b false)) }])
 (.seq (.seq (.reg false [{ dst := some 6, op := .mv (.t 0) },
  { dst := some 7, op := .len (.t 6) },
  { dst := some 8, op := .mv (.t 1) },
  { dst := some 9, op := .len (.t 8) },
  { dst := some 10, op := .bin .neq (.t 7) (.t 9) }])
 (.cond (.t 10) (.seq (.reg false [{ dst := some 4, op := .mv (.c (.b false)) }])
 .ret)
 .skip))
 (.seq (.seq (.reg false [{ dst := some 5, op := .mv (.c (.i .i64 0)) }])
 (.blk 0 (.loop (.seq (.seq (.reg false [{ dst := some 11, op := .mv (.t 5) },
  { dst := some 12, op := .mv (.t 0) },
  { dst := some 13, op := .len (.t 12) },
  { dst := some 14, op := .bin .lss (.t 11) (.t 13) }])
 (.cond (.t 14) .skip
 (.ext 0)))
 (.seq (.blk 1 (.seq (.reg true [{ dst := some 17, op := .mv (.t 0) },
  { dst := some 18, op := .mv (.t 5) },
  { dst := some 19, op := .ia 2 (.t 17) (.t 18) },
  { dst := some 20, op := .fa 0 (.t 19) },
  { dst := some 21, op := .ld none (.t 20), pre := [] },
  { dst := some 22, op := .mv (.t 1) },
  { dst := some 23, op := .mv (.t 5) },
  { dst := some 24, op := .ia 2 (.t 22) (.t 23) },
  { dst := some 25, op := .fa 0 (.t 24) },
  { dst := some 26, op := .ld none (.t 25), pre := [] },
  { dst := some 27, op := .bin .neq (.t 21) (.t 26) },
  { dst := some 28, op := .mv (.t 27) },
  { dst := some 29, op := .mv (.t 0), grd := some (28, false) },
  { dst := some 30, op := .mv (.t 5), grd := some (28, false) },
  { dst := some 31, op := .ia 2 (.t 29) (.t 30), grd := some (28, false) },
  { dst := some 32, op := .fa 1 (.t 31), grd := some (28, false) },
  { dst := some 33, op := .ld none (.t 32), grd := some (28, false), pre := [] },
  { dst := some 34, op := .mv (.t 1), grd := some (28, false) },
  { dst := some 35, op := .mv (.t 5), grd := some (28, false) },
  { dst := some 36, op := .ia 2 (.t 34) (.t 35), grd := some (28, false) },
  { dst := some 37, op := .fa 1 (.t 36), grd := some (28, false) },
  { dst := some 38, op := .ld none (.t 37), grd := some (28, false), pre := [] },
  { dst := some 39, op := .bin .neq (.t 33) (.t 38), grd := some (28, false) },
  { dst := some 40, op := .pick (.t 28) (.c (.b true)) (.t 39) }])
 (.cond (.t 40) (.seq (.reg false [{ dst := some 4, op := .mv (.c (.b false)) }])
 .ret)
 .skip)))
 (.reg false [{ dst := some 15, op := .mv (.t 5) },
  { dst := some 16, op := .bin .add (.t 15) (.c (.i .i64 1)) },
  { dst := some 5, op := .mv (.t 16) }]))))))
 (.seq (.reg false [{ dst := some 4, op := .mv (.c (.b true)) }])
 .ret)))) }
def A_xref01_R_Pairs : AFun := { res := [.t 2], body := (.seq (.reg false [{ dst := some 2, op := .mv (.c (.sl [] 0 .rig)) }])
 (.seq (.reg false [{ dst := some 3, op := .mv (.c (.sl [] 0 .rig)) }])
 (.seq (.seq (.reg false [{ dst := some 4, op := .mv (.c (.i .i64 0)) }])
 (.blk 0 (.loop (.seq (.seq (.reg false [{ dst := some 6, op := .mv (.t 4) },
  { dst := some 7, op := .mv (.t 0) },
  { dst := some 8, op := .nilck (.t 7) },
  { dst := some 9, op := .fa 0 (.t 8) },
  { dst := some 10, op := .ld none (.t 9) },
  { dst := some 11, op := .bin .lss (.t 6) (.t 10) }])
 (.cond (.t 11) .skip
 (.ext 0)))
 (.seq (.blk 1 (.seq (.reg false [{ dst := some 5, op := .mv (.c (.i .i64 0)) }])
 (.blk 2 (.loop (.seq (.seq (.reg false [{ dst := some 14, op := .mv (.t 5) },
  { dst := some 15, op := .mv (.t 0) },
  { dst := some 16, op := .nilck (.t 15) },
  { dst := some 17, op := .fa 0 (.t 16) },
  { dst := some 18, op := .ld none (.t 17) },
  { dst := some 19, op := .bin .lss (.t 14) (.t 18) }])
 (.cond (.t 19) .skip
 (.ext 2)))
 (.seq (.blk 3 (.seq (.reg false [{ dst := some 22, op := .mv (.t 0) },
  { dst := some 23, op := .mv (.t 4) },
  { dst := some 24, op := .mv (.t 5) },
  { dst := some 25, op := .nilck (.t 22) },
  { dst := some 26, op := .fa 1 (.t 25) },
  { dst := some 27, op := .iaa 40 40 (.t 26) (.t 23) },
  { dst := some 28, op := .iaa 40 1 (.t 27) (.t 24) },
  { dst := some 29, op := .ld none (.t 28) }])
 (.cond (.t 29) (.reg false [{ dst := some 30, op := .mv (.t 3) },
  { dst := some 31, op := .mv (.t 4) },
  { dst := some 32, op := .mv (.t 5) },
  { dst := some 33, op := .build ([.i .i64 0, .i .i64 0]) [(0, 1, .t 31), (1, 1, .t 32)] },
  { dst := some 34, op := .bsl true 1 ([.i .i64 0, .i .i64 0]) [(0, 2, .t 33)] },
  { dst := some 35, op := .app 2 16 (.t 30) (.t 34) },
  { dst := some 3, op := .mv (.t 35) }])
 .skip)))
 (.reg false [{ dst := some 20, op := .mv (.t 5) },
  { dst := some 21, op := .bin .add (.t 20) (.c (.i .i64 1)) },
  { dst := some 5, op := .mv (.t 21) }])))))))
 (.reg false [{ dst := some 12, op := .mv (.t 4) },
  { dst := some 13, op := .bin .add (.t 12) (.c (.i .i64 1)) },
  { dst := some 4, op := .mv (.t 13) }]))))))
 (.seq (.reg false [{ dst := some 36, op := .mv (.t 3) },
  { dst := some 2, op := .mv (.t 36) }])
 .ret)))) }
structure Pk_xref01 (F : Funs) : Prop where
  xref01_New : F 27 = some A_xref01_New
  xref01_R_Or : F 29 = some A_xref01_R_Or
  xref01_R_And : F 30 = some A_xref01_R_And
  xref01_R_Then : F 32 = some A_xref01_R_Then
  xref01_R_Back : F 33 = some A_xref01_R_Back
  xref01_R_Plus : F 34 = some A_xref01_R_Plus
  xref01_R_Maybe : F 35 = some A_xref01_R_Maybe
  xref01_SamePairs : F 55 = some A_xref01_SamePairs
  xref01_R_Pairs : F 56 = some A_xref01_R_Pairs
end Go.Ab
end
section
namespace Go.Ab
def A_xref02_Check : AFun := { res := [.t 2], body := (.seq (.reg false [{ dst := some 2, op := .mv (.c (.b false)) }])
 (.seq (.reg false [{ dst := some 3, op := .mv (.c (.i .i64 0)) }])
 (.seq (.seq (.reg false [{ dst := some 4, op := .mv (.c (.i .i64 0)) }])
 (.blk 0 (.loop (.seq (.seq (.reg false [{ dst := some 5, op := .mv (.t 4) },
  { dst := some 6, op := .mv (.t 0) },
  { dst := some 7, op := .len (.t 6) },
  { dst := some 8, op := .bin .lss (.t 5) (.t 7) }])
 (.cond (.t 8) .skip
 (.ext 0)))
 (.seq (.blk 1 (.seq (.seq (.reg false [{ dst := some 11, op := .mv (.t 0) },
  { dst := some 12, op := .mv (.t 4) },
  { dst := some 13, op := .ia 2 (.t 11) (.t 12) },
  { dst := some 14, op := .ld (some 2) (.t 13) },
  { dst := some 15, op := .call .pure (.c (.fn 125 [] [])) [.t 14] },
  { dst := some 16, op := .un .not (.t 15) }])
 (.cond (.t 16) (.seq (.reg false [{ dst := some 2, op := .mv (.c (.b false)) }])
 .ret)
 .skip))
 (.seq (.seq (.reg false [{ dst := some 17, op := .mv (.t 0) },
  { dst := some 18, op := .mv (.t 4) },
  { dst := some 19, op := .ia 2 (.t 17) (.t 18) },
  { dst := some 20, op := .fa 0 (.t 19) },
  { dst := some 21, op := .ld none (.t 20) },
  { dst := some 22, op := .bin .neq (.t 21) (.c (.i .i64 3)) }])
 (.cond (.t 22) (.seq (.reg false [{ dst := some 23, op := .mv (.t 3) },
  { dst := some 24, op := .bin .add (.t 23) (.c (.i .i64 1)) },
  { dst := some 3, op := .mv (.t 24) }])
 (.ext 1))
 .skip))
 (.seq (.seq (.reg false [{ dst := some 25, op := .mv (.t 3) },
  { dst := some 26, op := .bin .lss (.t 25) (.c (.i .i64 2)) }])
 (.cond (.t 26) (.seq (.reg false [{ dst := some 2, op := .mv (.c (.b false)) }])
 .ret)
 .skip))
 (.reg false [{ dst := some 27, op := .mv (.t 3) },
  { dst := some 28, op := .bin .sub (.t 27) (.c (.i .i64 1)) },
  { dst := some 3, op := .mv (.t 28) }])))))
 (.reg false [{ dst := some 9, op := .mv (.t 4) },
  { dst := some 10, op := .bin .add (.t 9) (.c (.i .i64 1)) },
  { dst := some 4, op := .mv (.t 10) }]))))))
 (.seq (.reg false [{ dst := some 29, op := .mv (.t 3) },
  { dst := some 30, op := .bin .eql (.t 29) (.c (.i .i64 1)) },
  { dst := some 31, op := .mv (.t 30) },
  { dst := some 32, op := .mv (.t 0), grd := some (31, true) },
  { dst := some 33, op := .len (.t 32), grd := some (31, true) },
  { dst := some 34, op := .bin .leq (.t 33) (.c (.i .i64 9)), grd := some (31, true) },
  { dst := some 35, op := .pick (.t 31) (.t 34) (.c (.b false)) },
  { dst := some 2, op := .mv (.t 35) }])
 .ret)))) }
def A_xref02_Eval : AFun := { res := [.t 4], body := (.seq (.reg false [{ dst := some 4, op := .mv (.c (.i .i64 0)) }])
 (.seq (.seq (.reg false [{ dst := some 8, op := .mv (.t 0) },
  { dst := some 9, op := .call .pure (.c (.fn 109 [] [])) [.t 8] },
  { dst := some 10, op := .un .not (.t 9) }])
 (.cond (.t 10) (.seq (.reg false [{ dst := some 4, op := .mv (.c (.i .i64 0)) }])
 .ret)
 .skip))
 (.seq (.reg false [{ dst := some 5, op := .mv (.c (.sl [] 0 .rig)) }])
 (.seq (.seq (.reg false [{ dst := some 6, op := .mv (.c (.i .i64 0)) }])
 (.blk 0 (.loop (.seq (.seq (.reg false [{ dst := some 11, op := .mv (.t 6) },
  { dst := some 12, op := .mv (.t 0) },
  { dst := some 13, op := .len (.t 12) },
  { dst := some 14, op := .bin .lss (.t 11) (.t 13) }])
 (.cond (.t 14) .skip
 (.ext 0)))
 (.seq (.blk 1 (.seq (.reg false [{ dst := some 17, op := .mv (.t 5) },
  { dst := some 18, op := .len (.t 17) },
  { dst := some 7, op := .mv (.t 18) }])
 (.blk 2 (.seq (.reg false [{ dst := some 23, op := .mv (.t 0) },
  { dst := some 24, op := .mv (.t 6) },
  { dst := some 25, op := .ia 2 (.t 23) (.t 24) },
  { dst := some 26, op := .fa 0 (.t 25) },
  { dst := some 27, op := .ld none (.t 26) },
  { dst := some 28, op := .bin .eql (.t 27) (.c (.i .i64 1)) },
  { dst := some 22, op := .mv (.t 28) }])
 (.cond (.t 22) (.reg false [{ dst := some 29, op := .mv (.t 5) },
  { dst := some 30, op := .mv (.t 0) },
  { dst := some 31, op := .mv (.t 6) },
  { dst := some 32, op := .ia 2 (.t 30) (.t 31) },
  { dst := some 33, op := .fa 1 (.t 32) },
  { dst := some 34, op := .ld none (.t 33) },
  { dst := some 35, op := .bsl true 1 ([.i .i64 0]) [(0, 1, .t 34)] },
  { dst := some 36, op := .appM 1 8 (.t 29) (.t 35) },
  { dst := some 5, op := .mv (.t 36) }])
 (.seq (.reg false [{ dst := some 38, op := .mv (.t 0) },
  { dst := some 39, op := .mv (.t 6) },
  { dst := some 40, op := .ia 2 (.t 38) (.t 39) },
  { dst := some 41, op := .fa 0 (.t 40) },
  { dst := some 42, op := .ld none (.t 41) },
  { dst := some 43, op := .bin .eql (.t 42) (.c (.i .i64 3)) },
  { dst := some 37, op := .mv (.t 43) }])
 (.cond (.t 37) (.reg true [{ dst := some 44, op := .mv (.t 5) },
  { dst := some 45, op := .mv (.t 7) },
  { dst := some 46, op := .bin .sub (.t 45) (.c (.i .i64 2)) },
  { dst := some 47, op := .slice 1 (.t 44) none (some (.t 46)) none },
  { dst := some 48, op := .mv (.t 0) },
  { dst := some 49, op := .mv (.t 6) },
  { dst := some 50, op := .ia 2 (.t 48) (.t 49) },
  { dst := some 51, op := .fa 1 (.t 50) },
  { dst := some 52, op := .ld none (.t 51), pre := [] },
  { dst := some 53, op := .mv (.t 5) },
  { dst := some 54, op := .mv (.t 7) },
  { dst := some 55, op := .bin .sub (.t 54) (.c (.i .i64 2)) },
  { dst := some 56, op := .ia 1 (.t 53) (.t 55) },
  { dst := some 57, op := .ld none (.t 56), pre := [] },
  { dst := some 58, op := .mv (.t 5) },
  { dst := some 59, op := .mv (.t 7) },
  { dst := some 60, op := .bin .sub (.t 59) (.c (.i .i64 1)) },
  { dst := some 61, op := .ia 1 (.t 58) (.t 60) },
  { dst := some 62, op := .ld none (.t 61), pre := [] },
  { dst := some 63, op := .call .pure (.c (.fn 128 [] [])) [.t 52, .t 57, .t 62], pre := [] },
  { dst := some 64, op := .bsl true 1 ([.i .i64 0]) [(0, 1, .t 63)], pre := [] },
  { dst := some 65, op := .appM 1 8 (.t 47) (.t 64), pre := [] },
  { dst := some 5, op := .mv (.t 65) }])
 (.seq (.reg false [{ dst := some 67, op := .mv (.t 0) },
  { dst := some 68, op := .mv (.t 6) },
  { dst := some 69, op := .ia 2 (.t 67) (.t 68) },
  { dst := some 70, op := .fa 1 (.t 69) },
  { dst := some 71, op := .ld none (.t 70) },
  { dst := some 72, op := .mv (.t 1) },
  { dst := some 73, op := .len (.t 72) },
  { dst := some 74, op := .bin .lss (.t 71) (.t 73) },
  { dst := some 66, op := .mv (.t 74) }])
 (.cond (.t 66) (.reg false [{ dst := some 75, op := .mv (.t 5) },
  { dst := some 76, op := .mv (.t 1) },
  { dst := some 77, op := .mv (.t 0) },
  { dst := some 78, op := .mv (.t 6) },
  { dst := some 79, op := .ia 2 (.t 77) (.t 78) },
  { dst := some 80, op := .fa 1 (.t 79) },
  { dst := some 81, op := .ld none (.t 80) },
  { dst := some 82, op := .ia 1 (.t 76) (.t 81) },
  { dst := some 83, op := .ld none (.t 82) },
  { dst := some 84, op := .bsl true 1 ([.i .i64 0]) [(0, 1, .t 83)] },
  { dst := some 85, op := .appM 1 8 (.t 75) (.t 84) },
  { dst := some 5, op := .mv (.t 85) }])
 (.reg false [{ dst := some 19, op := .mv (.t 5) },
  { dst := some 20, op := .bsl true 1 ([.i .i64 0]) [(0, 1, .c (.i .i64 0))] },
  { dst := some 21, op := .appM 1 8 (.t 19) (.t 20) },
  { dst := some 5, op := .mv (.t 21) }]))))))))))
 (.reg false [{ dst := some 15, op := .mv (.t 6) },
  { dst := some 16, op := .bin .add (.t 15) (.c (.i .i64 1)) },
  { dst := some 6, op := .mv (.t 16) }]))))))
 (.seq (.reg false [{ dst := some 86, op := .mv (.t 5) },
  { dst := some 87, op := .ia 1 (.t 86) (.c (.i .i64 0)) },
  { dst := some 88, op := .ld none (.t 87) },
  { dst := some 4, op := .mv (.t 88) }])
 .ret))))) }
def A_xref02_word : AFun := { res := [.t 2], body := (.seq (.reg false [{ dst := some 1, op := .box (.t 0) },
  { dst := some 2, op := .mv (.c (.b false)) }])
 (.seq (.seq (.reg false [{ dst := some 3, op := .fa 0 (.t 1) },
  { dst := some 4, op := .ld none (.t 3) }])
 (.blk 0 (.seq (.reg false [{ dst := some 6, op := .bin .eql (.t 4) (.c (.i .i64 1)) },
  { dst := some 5, op := .mv (.t 6) }])
 (.cond (.t 5) (.seq (.reg false [{ dst := some 7, op := .fa 1 (.t 1) },
  { dst := some 8, op := .ld none (.t 7) },
  { dst := some 9, op := .bin .geq (.t 8) (.c (.i .i64 (-2147483648))) },
  { dst := some 10, op := .mv (.t 9) },
  { dst := some 11, op := .fa 1 (.t 1), grd := some (10, true) },
  { dst := some 12, op := .ld none (.t 11), grd := some (10, true) },
  { dst := some 13, op := .bin .leq (.t 12) (.c (.i .i64 2147483647)), grd := some (10, true) },
  { dst := some 14, op := .pick (.t 10) (.t 13) (.c (.b false)) },
  { dst := some 2, op := .mv (.t 14) }])
 .ret)
 (.seq (.reg false [{ dst := some 16, op := .bin .eql (.t 4) (.c (.i .i64 2)) },
  { dst := some 15, op := .mv (.t 16) }])
 (.cond (.t 15) (.seq (.reg false [{ dst := some 17, op := .fa 1 (.t 1) },
  { dst := some 18, op := .ld none (.t 17) },
  { dst := some 19, op := .bin .geq (.t 18) (.c (.i .i64 0)) },
  { dst := some 20, op := .mv (.t 19) },
  { dst := some 21, op := .fa 1 (.t 1), grd := some (20, true) },
  { dst := some 22, op := .ld none (.t 21), grd := some (20, true) },
  { dst := some 23, op := .bin .lss (.t 22) (.c (.i .i64 8)), grd := some (20, true) },
  { dst := some 24, op := .pick (.t 20) (.t 23) (.c (.b false)) },
  { dst := some 2, op := .mv (.t 24) }])
 .ret)
 (.seq (.reg false [{ dst := some 26, op := .bin .eql (.t 4) (.c (.i .i64 3)) },
  { dst := some 25, op := .mv (.t 26) }])
 (.cond (.t 25) (.seq (.reg false [{ dst := some 27, op := .fa 1 (.t 1) },
  { dst := some 28, op := .ld none (.t 27) },
  { dst := some 29, op := .bin .geq (.t 28) (.c (.i .i64 1)) },
  { dst := some 30, op := .mv (.t 29) },
  { dst := some 31, op := .fa 1 (.t 1), grd := some (30, true) },
  { dst := some 32, op := .ld none (.t 31), grd := some (30, true) },
  { dst := some 33, op := .bin .leq (.t 32) (.c (.i .i64 6)), grd := some (30, true) },
  { dst := some 34, op := .pick (.t 30) (.t 33) (.c (.b false)) },
  { dst := some 2, op := .mv (.t 34) }])
 .ret)
 .skip))))))))
 (.seq (.reg false [{ dst := some 2, op := .mv (.c (.b false)) }])
 .ret))) }
def A_xref02_Regs : AFun := { res := [.t 2], body := (.seq (.reg false [{ dst := some 2, op := .mv (.c (.sl [] 0 .rig)) }])
 (.seq (.reg false [{ dst := some 3, op := .mv (.c (.sl [] 0 .rig)) }])
 (.seq (.seq (.reg false [{ dst := some 4, op := .mv (.c (.i .i64 0)) }])
 (.blk 0 (.loop (.seq (.seq (.reg false [{ dst := some 6, op := .mv (.t 4) },
  { dst := some 7, op := .mv (.t 0) },
  { dst := some 8, op := .len (.t 7) },
  { dst := some 9, op := .bin .lss (.t 6) (.t 8) }])
 (.cond (.t 9) .skip
 (.ext 0)))
 (.seq (.blk 1 (.seq (.seq (.reg false [{ dst := some 12, op := .mv (.t 0) },
  { dst := some 13, op := .mv (.t 4) },
  { dst := some 14, op := .ia 2 (.t 12) (.t 13) },
  { dst := some 15, op := .fa 0 (.t 14) },
  { dst := some 16, op := .ld none (.t 15) },
  { dst := some 17, op := .bin .neq (.t 16) (.c (.i .i64 2)) }])
 (.cond (.t 17) (.ext 1)
 .skip))
 (.seq (.reg false [{ dst := some 5, op := .mv (.c (.i .i64 0)) }])
 (.seq (.blk 2 (.loop (.seq (.seq (.reg true [{ dst := some 18, op := .mv (.t 5) },
  { dst := some 19, op := .mv (.t 3) },
  { dst := some 20, op := .len (.t 19) },
  { dst := some 21, op := .bin .lss (.t 18) (.t 20) },
  { dst := some 22, op := .mv (.t 21) },
  { dst := some 23, op := .mv (.t 3), grd := some (22, true) },
  { dst := some 24, op := .mv (.t 5), grd := some (22, true) },
  { dst := some 25, op := .ia 1 (.t 23) (.t 24), grd := some (22, true) },
  { dst := some 26, op := .ld none (.t 25), grd := some (22, true), pre := [] },
  { dst := some 27, op := .mv (.t 0), grd := some (22, true) },
  { dst := some 28, op := .mv (.t 4), grd := some (22, true) },
  { dst := some 29, op := .ia 2 (.t 27) (.t 28), grd := some (22, true) },
  { dst := some 30, op := .fa 1 (.t 29), grd := some (22, true) },
  { dst := some 31, op := .ld none (.t 30), grd := some (22, true), pre := [] },
  { dst := some 32, op := .bin .lss (.t 26) (.t 31), grd := some (22, true) },
  { dst := some 33, op := .pick (.t 22) (.t 32) (.c (.b false)) }])
 (.cond (.t 33) .skip
 (.ext 2)))
 (.blk 3 (.reg false [{ dst := some 34, op := .mv (.t 5) },
  { dst := some 35, op := .bin .add (.t 34) (.c (.i .i64 1)) },
  { dst := some 5, op := .mv (.t 35) }])))))
 (.seq (.seq (.reg true [{ dst := some 36, op := .mv (.t 5) },
  { dst := some 37, op := .mv (.t 3) },
  { dst := some 38, op := .len (.t 37) },
  { dst := some 39, op := .bin .lss (.t 36) (.t 38) },
  { dst := some 40, op := .mv (.t 39) },
  { dst := some 41, op := .mv (.t 3), grd := some (40, true) },
  { dst := some 42, op := .mv (.t 5), grd := some (40, true) },
  { dst := some 43, op := .ia 1 (.t 41) (.t 42), grd := some (40, true) },
  { dst := some 44, op := .ld none (.t 43), grd := some (40, true), pre := [] },
  { dst := some 45, op := .mv (.t 0), grd := some (40, true) },
  { dst := some 46, op := .mv (.t 4), grd := some (40, true) },
  { dst := some 47, op := .ia 2 (.t 45) (.t 46), grd := some (40, true) },
  { dst := some 48, op := .fa 1 (.t 47), grd := some (40, true) },
  { dst := some 49, op := .ld none (.t 48), grd := some (40, true), pre := [] },
  { dst := some 50, op := .bin .eql (.t 44) (.t 49), grd := some (40, true) },
  { dst := some 51, op := .pick (.t 40) (.t 50) (.c (.b false)) }])
 (.cond (.t 51) (.ext 1)
 .skip))
 (.reg true [{ dst := some 52, op := .mv (.t 3) },
  { dst := some 53, op := .mv (.t 5) },
  { dst := some 54, op := .slice 1 (.t 52) none (some (.t 53)) none },
  { dst := some 55, op := .app 1 8 (.c (.sl [] 0 .rig)) (.t 54), pre := [] },
  { dst := some 56, op := .mv (.t 0) },
  { dst := some 57, op := .mv (.t 4) },
  { dst := some 58, op := .ia 2 (.t 56) (.t 57) },
  { dst := some 59, op := .fa 1 (.t 58) },
  { dst := some 60, op := .ld none (.t 59), pre := [] },
  { dst := some 61, op := .bsl true 1 ([.i .i64 0]) [(0, 1, .t 60)], pre := [] },
  { dst := some 62, op := .app 1 8 (.t 55) (.t 61), pre := [3] },
  { dst := some 63, op := .mv (.t 3) },
  { dst := some 64, op := .mv (.t 5) },
  { dst := some 65, op := .slice 1 (.t 63) (some (.t 64)) none none },
  { dst := some 66, op := .app 1 8 (.t 62) (.t 65), pre := [3, 10] },
  { dst := some 3, op := .mv (.t 66) }]))))))
 (.reg false [{ dst := some 10, op := .mv (.t 4) },
  { dst := some 11, op := .bin .add (.t 10) (.c (.i .i64 1)) },
  { dst := some 4, op := .mv (.t 11) }]))))))
 (.seq (.reg false [{ dst := some 67, op := .mv (.t 3) },
  { dst := some 2, op := .mv (.t 67) }])
 .ret)))) }
def A_xref02_Same : AFun := { res := [.t 4], body := (.seq (.reg false [{ dst := some 4, op := .mv (.c (.b false)) }])
 (.seq (.seq (.reg false [{ dst := some 6, op := .mv (.t 0) },
  { dst := some 7, op := .len (.t 6) },
  { dst := some 8, op := .mv (.t 1) },
  { dst := some 9, op := .len (.t 8) },
  { dst := some 10, op := .bin .neq (.t 7) (.t 9) }])
 (.cond (.t 10) (.seq (.reg false [{ dst := some 4, op := .mv (.c (.b false)) }])
 .ret)
 .skip))
 (.seq (.seq (.reg false [{ dst := some 5, op := .mv (.c (.i .i64 0)) }])
 (.blk 0 (.loop (.seq (.seq (.reg false [{ dst := some 11, op := .mv (.t 5) },
  { dst := some 12, op := .mv (.t 0) },
  { dst := some 13, op := .len (.t 12) },
  { dst := some 14, op := .bin .lss (.t 11) (.t 13) }])
 (.cond (.t 14) .skip
 (.ext 0)))
 (.seq (.blk 1 (.seq (.reg true [{ dst := some 17, op := .mv (.t 0) },
  { dst := some 18, op := .mv (.t 5) },
  { dst := some 19, op := .ia 2 (.t 17) (.t 18) },
  { dst := some 20, op := .fa 0 (.t 19) },
  { dst := some 21, op := .ld none (.t 20), pre := [] },
  { dst := some 22, op := .mv (.t 1) },
  { dst := some 23, op := .mv (.t 5) },
  { dst := some 24, op := .ia 2 (.t 22) (.t 23) },
  { dst := some 25, op := .fa 0 (.t 24) },
  { dst := some 26, op := .ld none (.t 25), pre := [] },
  { dst := some 27, op := .bin .neq (.t 21) (.t 26) },
  { dst := some 28, op := .mv (.t 27) },
  { dst := some 29, op := .mv (.t 0), grd := some (28, false) },
  { dst := some 30, op := .mv (.t 5), grd := some (28, false) },
  { dst := some 31, op := .ia 2 (.t 29) (.t 30), grd := some (28, false) },
  { dst := some 32, op := .fa 1 (.t 31), grd := some (28, false) },
  { dst := some 33, op := .ld none (.t 32), grd := some (28, false), pre := [] },
  { dst := some 34, op := .mv (.t 1), grd := some (28, false) },
  { dst := some 35, op := .mv (.t 5), grd := some (28, false) },
  { dst := some 36, op := .ia 2 (.t 34) (.t 35), grd := some (28, false) },
  { dst := some 37, op := .fa 1 (.t 36), grd := some (28, false) },
  { dst := some 38, op := .ld none (.t 37), grd := some (28, false), pre := [] },
  { dst := some 39, op := .bin .neq (.t 33) (.t 38), grd := some (28, false) },
  { dst := some 40, op := .pick (.t 28) (.c (.b true)) (.t 39) }])
 (.cond (.t 40) (.seq (.reg false [{ dst := some 4, op := .mv (.c (.b false)) }])
 .ret)
 .skip)))
 (.reg false [{ dst := some 15, op := .mv (.t 5) },
  { dst := some 16, op := .bin .add (.t 15) (.c (.i .i64 1)) },
  { dst := some 5, op := .mv (.t 16) }]))))))
 (.seq (.reg false [{ dst := some 4, op := .mv (.c (.b true)) }])
 .ret)))) }
def A_xref02_Do : AFun := { res := [.t 6], body := (.seq (.reg false [{ dst := some 6, op := .mv (.c (.i .i64 0)) }])
 (.seq (.seq (.reg false [{ dst := some 7, op := .mv (.t 0) }])
 (.blk 0 (.seq (.reg false [{ dst := some 9, op := .bin .eql (.t 7) (.c (.i .i64 1)) },
  { dst := some 8, op := .mv (.t 9) }])
 (.cond (.t 8) (.seq (.reg false [{ dst := some 10, op := .mv (.t 1) },
  { dst := some 11, op := .mv (.t 2) },
  { dst := some 12, op := .bin .add (.t 10) (.t 11) },
  { dst := some 6, op := .mv (.t 12) }])
 .ret)
 (.seq (.reg false [{ dst := some 14, op := .bin .eql (.t 7) (.c (.i .i64 2)) },
  { dst := some 13, op := .mv (.t 14) }])
 (.cond (.t 13) (.seq (.reg false [{ dst := some 15, op := .mv (.t 1) },
  { dst := some 16, op := .mv (.t 2) },
  { dst := some 17, op := .bin .sub (.t 15) (.t 16) },
  { dst := some 6, op := .mv (.t 17) }])
 .ret)
 (.seq (.reg false [{ dst := some 19, op := .bin .eql (.t 7) (.c (.i .i64 3)) },
  { dst := some 18, op := .mv (.t 19) }])
 (.cond (.t 18) (.seq (.reg false [{ dst := some 20, op := .mv (.t 1) },
  { dst := some 21, op := .mv (.t 2) },
  { dst := some 22, op := .bin .mul (.t 20) (.t 21) },
  { dst := some 6, op := .mv (.t 22) }])
 .ret)
 (.seq (.reg false [{ dst := some 24, op := .bin .eql (.t 7) (.c (.i .i64 4)) },
  { dst := some 23, op := .mv (.t 24) }])
 (.cond (.t 23) (.seq (.reg false [{ dst := some 25, op := .mv (.t 1) },
  { dst := some 26, op := .mv (.t 2) },
  { dst := some 27, op := .bin .xor (.t 25) (.t 26) },
  { dst := some 6, op := .mv (.t 27) }])
 .ret)
 (.seq (.reg false [{ dst := some 29, op := .bin .eql (.t 7) (.c (.i .i64 5)) },
  { dst := some 28, op := .mv (.t 29) }])
 (.cond (.t 28) (.seq (.reg false [{ dst := some 30, op := .mv (.t 1) },
  { dst := some 31, op := .mv (.t 2) },
  { dst := some 32, op := .bin .eql (.t 30) (.t 31) }])
 (.cond (.t 32) (.seq (.reg false [{ dst := some 6, op := .mv (.c (.i .i64 1)) }])
 .ret)
 .skip))
 (.seq (.reg false [{ dst := some 34, op := .bin .eql (.t 7) (.c (.i .i64 6)) },
  { dst := some 33, op := .mv (.t 34) }])
 (.cond (.t 33) (.seq (.reg false [{ dst := some 35, op := .mv (.t 1) },
  { dst := some 36, op := .mv (.t 2) },
  { dst := some 37, op := .bin .lss (.t 35) (.t 36) }])
 (.cond (.t 37) (.seq (.reg false [{ dst := some 6, op := .mv (.c (.i .i64 1)) }])
 .ret)
 .skip))
 .skip))))))))))))))
 (.seq (.reg false [{ dst := some 6, op := .mv (.c (.i .i64 0)) }])
 .ret))) }
end Go.Ab
end
section
namespace Go.Ab
def A_xref03_SameInstr : AFun := { res := [.t 4], body := (.seq (.reg false [{ dst := some 2, op := .box (.t 0) },
  { dst := some 3, op := .box (.t 1) },
  { dst := some 4, op := .mv (.c (.b false)) }])
 (.seq (.reg false [{ dst := some 5, op := .fa 0 (.t 2) },
  { dst := some 6, op := .ld none (.t 5) },
  { dst := some 7, op := .fa 0 (.t 3) },
  { dst := some 8, op := .ld none (.t 7) },
  { dst := some 9, op := .bin .eql (.t 6) (.t 8) },
  { dst := some 10, op := .mv (.t 9) },
  { dst := some 11, op := .fa 1 (.t 2), grd := some (10, true) },
  { dst := some 12, op := .ld none (.t 11), grd := some (10, true) },
  { dst := some 13, op := .fa 1 (.t 3), grd := some (10, true) },
  { dst := some 14, op := .ld none (.t 13), grd := some (10, true) },
  { dst := some 15, op := .bin .eql (.t 12) (.t 14), grd := some (10, true) },
  { dst := some 16, op := .pick (.t 10) (.t 15) (.c (.b false)) },
  { dst := some 17, op := .mv (.t 16) },
  { dst := some 18, op := .fa 2 (.t 2), grd := some (17, true) },
  { dst := some 19, op := .ld none (.t 18), grd := some (17, true) },
  { dst := some 20, op := .fa 2 (.t 3), grd := some (17, true) },
  { dst := some 21, op := .ld none (.t 20), grd := some (17, true) },
  { dst := some 22, op := .bin .eql (.t 19) (.t 21), grd := some (17, true) },
  { dst := some 23, op := .pick (.t 17) (.t 22) (.c (.b false)) },
  { dst := some 24, op := .mv (.t 23) },
  { dst := some 25, op := .fa 3 (.t 2), grd := some (24, true) },
  { dst := some 26, op := .ld none (.t 25), grd := some (24, true) },
  { dst := some 27, op := .fa 3 (.t 3), grd := some (24, true) },
  { dst := some 28, op := .ld none (.t 27), grd := some (24, true) },
  { dst := some 29, op := .bin .eql (.t 26) (.t 28), grd := some (24, true) },
  { dst := some 30, op := .pick (.t 24) (.t 29) (.c (.b false)) },
  { dst := some 31, op := .mv (.t 30) },
  { dst := some 32, op := .fa 4 (.t 2), grd := some (31, true) },
  { dst := some 33, op := .ld none (.t 32), grd := some (31, true) },
  { dst := some 34, op := .fa 4 (.t 3), grd := some (31, true) },
  { dst := some 35, op := .ld none (.t 34), grd := some (31, true) },
  { dst := some 36, op := .bin .eql (.t 33) (.t 35), grd := some (31, true) },
  { dst := some 37, op := .pick (.t 31) (.t 36) (.c (.b false)) },
  { dst := some 38, op := .mv (.t 37) },
  { dst := some 39, op := .fa 6 (.t 2), grd := some (38, true) },
  { dst := some 40, op := .ld none (.t 39), grd := some (38, true) },
  { dst := some 41, op := .fa 6 (.t 3), grd := some (38, true) },
  { dst := some 42, op := .ld none (.t 41), grd := some (38, true) },
  { dst := some 43, op := .bin .eql (.t 40) (.t 42), grd := some (38, true) },
  { dst := some 44, op := .pick (.t 38) (.t 43) (.c (.b false)) },
  { dst := some 45, op := .mv (.t 44) },
  { dst := some 46, op := .fa 5 (.t 2), grd := some (45, true) },
  { dst := some 47, op := .ld none (.t 46), grd := some (45, true) },
  { dst := some 48, op := .fa 5 (.t 3), grd := some (45, true) },
  { dst := some 49, op := .ld none (.t 48), grd := some (45, true) },
  { dst := some 50, op := .call .pure (.c (.fn 127 [] [])) [.t 47, .t 49], grd := some (45, true) },
  { dst := some 51, op := .pick (.t 45) (.t 50) (.c (.b false)) },
  { dst := some 4, op := .mv (.t 51) }])
 .ret)) }
end Go.Ab
end
