/- The heap's steps: stores, appends in place, locks; what is laid out ahead of a call. -/
import Derived.Test.YtfhinaopoffcnaaAbRep
set_option linter.unusedVariables false
namespace Go.Ab
open Go.RowKit

def lset {α : Type} : List α → Nat → List α → List α
  | l, _, [] => l
  | l, o, x :: xs => lset (l.set o x) (o + 1) xs
theorem lset_length {α : Type} : ∀ (xs l : List α) (o : Nat), (lset l o xs).length = l.length
  | [], _, _ => rfl
  | x :: xs, l, o => by rw [lset, lset_length]; simp
theorem lset_eq {α : Type} : ∀ (xs l : List α) (o : Nat), o + xs.length ≤ l.length → lset l o xs = l.take o ++ xs ++ l.drop (o + xs.length)
  | [], l, o, _ => by simp [lset]
  | x :: xs, l, o, h => by
    simp at h
    rw [lset, lset_eq xs _ _ (by simp; omega)]
    have h1 : (l.set o x).take (o + 1) = l.take o ++ [x] := by
      apply List.ext_getElem?
      intro j
      by_cases hj : j < o
      · rw [List.getElem?_append_left (by simp; omega), List.getElem?_take, List.getElem?_take, List.getElem?_set_ne (by omega)]
        simp [hj, Nat.lt_succ_of_lt hj]
      · by_cases hje : j = o
        · subst hje
          rw [List.getElem?_append_right (by simp; omega), List.getElem?_take, List.getElem?_set_self (by omega)]
          simp
          rw [Nat.min_eq_left (by omega)]
          simp
        · rw [List.getElem?_eq_none (by simp; omega), List.getElem?_eq_none (by simp; omega)]
    have h2 : (l.set o x).drop (o + 1 + xs.length) = l.drop (o + (xs.length + 1)) := by
      apply List.ext_getElem?
      intro j
      rw [List.getElem?_drop, List.getElem?_drop, List.getElem?_set_ne (by omega)]
      congr 1
      omega
    rw [h1, h2]
    simp
theorem splice_eq (cs : List AV) (o : Nat) (xs : List AV) (h : o + xs.length ≤ cs.length) : splice cs o xs = lset cs o xs := by
  unfold splice
  split
  · rfl
  · rw [lset_eq xs cs o h]
theorem Reps.lsetAll {c : Cx} {m : Bool} : ∀ (xs : List AV) (us : List Value) (cs : List AV) (vs : List Value) (o : Nat), Reps c m cs vs → Reps c m xs us → Reps c m (Ab.lset cs o xs) (Ab.lset vs o us)
  | [], us, cs, vs, o, h, k => by
    have := k.nil_inv
    subst this
    exact h
  | x :: xs, us, cs, vs, o, h, k => by
    obtain ⟨v, us', rfl, hv, k'⟩ := k.cons_inv
    exact Reps.lsetAll xs us' _ _ _ (h.set o hv) k'
theorem lset_all {p : AV → Bool} : ∀ (xs cs : List AV) (o : Nat), cs.all p = true → xs.all p = true → (lset cs o xs).all p = true
  | [], _, _, h, _ => h
  | x :: xs, cs, o, h, k => by
    simp only [List.all_cons, Bool.and_eq_true] at k
    refine lset_all xs _ _ ?_ k.2
    rw [List.all_eq_true] at h ⊢
    intro y hy
    rcases List.mem_or_eq_of_mem_set hy with h1 | h1
    · exact h y h1
    · rw [h1]; exact k.1

theorem heap_setCells_other (b : Nat) : ∀ (vs : List Value) (o : Nat) (w : World) (k : Nat), k ≠ b → (w.setCells b o vs).heap[k]? = w.heap[k]?
  | [], _, _, _, _ => rfl
  | v :: r, o, w, k, h => by rw [World.setCells, heap_setCells_other b r _ _ _ h]; exact Below.heap_setCell w _ _ _ h
theorem size_setCells (b : Nat) : ∀ (vs : List Value) (o : Nat) (w : World), (w.setCells b o vs).heap.size = w.heap.size
  | [], _, _ => rfl
  | v :: r, o, w => by rw [World.setCells, size_setCells b r]; simp
theorem heap_setCells_same (b : Nat) : ∀ (vs : List Value) (o : Nat) (w : World) (us : List Value) (ty : TypeId) (f : Nat × Nat), w.heap[b]? = some (.cells us.toArray ty f) → (w.setCells b o vs).heap[b]? = some (.cells (lset us o vs).toArray ty f)
  | [], _, _, _, _, _, h => h
  | v :: r, o, w, us, ty, f, h => by
    rw [World.setCells, lset]
    refine heap_setCells_same b r _ _ _ ty f ?_
    simp only [World.setCell, Array.getElem?_modify, if_true, h, Option.map_some]
    simp
theorem below_setCells (b : Nat) {B : Nat} {a : World} : ∀ (vs : List Value) (o : Nat) (w : World), Below B a w → B ≤ b → Below B a (w.setCells b o vs)
  | [], _, _, h, _ => h
  | v :: r, o, w, h, hb => below_setCells b r _ _ (h.setCell hb v) hb

theorem I_lt {c : Cx} (hb : c.base ≤ c.w.heap.size) {ad : Addr} (h : c.I ad) : ad.block < c.w.heap.size := by
  rcases h with ⟨h1, _⟩ | ⟨_, h2, _⟩
  · omega
  · exact h2

/-! ### a store into a block -/
def Cx.store (c : Cx) (id off : Nat) (cs xs : List AV) (us : List Value) : Cx :=
  { c with w := c.w.setCells (c.loc id).1 off us, hp := upd c.hp id (some (.cells (splice cs off xs) false)) }
theorem live_of {c : Cx} {id : Nat} {b : Blk} (h : c.hp id = some b) (hb : b ≠ .tok false) : c.live id := ⟨b, h, hb⟩
theorem Evo.store {c : Cx} {nx : Nat} (K : Ok c nx) {id off : Nat} {cs xs : List AV} {us : List Value} (hid : c.hp id = some (.cells cs false)) : Evo c (c.store id off cs xs us) where
  num := rfl
  base := rfl
  J := rfl
  below := below_setCells _ _ _ _ (Below.refl _ _) (K.cells id cs _ hid).1
  imm := fun ad hI => by
    have hne : ad.block ≠ (c.loc id).1 := by
      intro he
      rcases hI with ⟨h1, _⟩ | ⟨_, _, h3⟩
      · have := (K.cells id cs _ hid).1; omega
      · exact h3 (.inl ⟨id, cs, hid, he.symm⟩)
    refine ⟨?_, fun v hv => by rw [← hv]; exact World.cell?_setCells_out _ _ _ _ _ (fun h => absurd h hne)⟩
    rcases hI with h1 | ⟨h1, h2, h3⟩
    · exact .inl h1
    · refine .inr ⟨h1, by show _ < (c.w.setCells _ _ _).heap.size; rw [size_setCells]; exact h2, fun hw => h3 ?_⟩
      rcases hw with ⟨i, ds, hi, hb⟩ | ⟨i, hi, hb, hlo⟩
      · by_cases he : i = id
        · subst he; exact .inl ⟨i, cs, hid, hb⟩
        · simp [Cx.store, upd, he] at hi; exact .inl ⟨i, ds, hi, hb⟩
      · by_cases he : i = id
        · subst he; simp [Cx.store, upd] at hi
        · simp [Cx.store, upd, he] at hi; exact .inr ⟨i, hi, hb, hlo⟩
  ids := fun i hi => by
    by_cases he : i = id
    · subst he; simp [Cx.store, upd]
    · exact ⟨by simpa [Cx.store, upd, he] using hi, rfl⟩
  tok := fun i hi ht => by
    by_cases he : i = id
    · subst he; simp [Cx.store, upd] at ht
    · simp [Cx.store, upd, he] at ht
      refine ⟨ht, fun vs ty hv => ⟨vs, ?_, rfl⟩⟩
      show (c.w.setCells _ _ _).heap[_]? = _
      rw [heap_setCells_other _ _ _ _ _ (K.inj i id he (live_of ht (by simp)) (live_of hid (by simp)))]
      exact hv
theorem Ok.store {c : Cx} {nx : Nat} (K : Ok c nx) {id off : Nat} {cs xs : List AV} {us : List Value} (hid : c.hp id = some (.cells cs false)) (hr : Reps c true xs us) (hf : off + xs.length ≤ cs.length) (h1 : xs.all Ab.one = true) :
    Ok (c.store id off cs xs us) nx := by
  have E := Evo.store K (off := off) (xs := xs) (us := us) hid
  have hlive : ∀ i, (c.store id off cs xs us).live i → c.live i := by
    intro i ⟨b, hb, hn⟩
    by_cases he : i = id
    · subst he; exact live_of hid (by simp)
    · simp [Cx.store, upd, he] at hb; exact ⟨b, hb, hn⟩
  have hne : ∀ i b, i ≠ id → c.hp i = some b → b ≠ .tok false → (c.store id off cs xs us).w.heap[(c.loc i).1]? = c.w.heap[(c.loc i).1]? := fun i b he hb hn =>
    heap_setCells_other _ _ _ _ _ (K.inj i id he (live_of hb hn) (live_of hid (by simp)))
  refine ⟨?_, ?_, ?_, ?_, ?_, ?_⟩
  · show c.base ≤ (c.w.setCells _ _ _).heap.size
    rw [size_setCells]; exact K.basele
  · intro i ds ro hi
    by_cases he : i = id
    · subst he
      simp [Cx.store, upd] at hi
      obtain ⟨rfl, rfl⟩ := hi
      obtain ⟨g1, vs, ty, g2, g3, g4⟩ := K.cells i cs _ hid
      refine ⟨g1, lset vs off us, ty, heap_setCells_same _ _ _ _ _ _ _ g2, ?_, ?_⟩
      · rw [splice_eq cs off xs hf]; exact (Reps.lsetAll _ _ _ _ off g3 hr).evo E
      · rw [splice_eq cs off xs hf]; exact lset_all _ _ _ g4 h1
    · simp [Cx.store, upd, he] at hi
      obtain ⟨g1, vs, ty, g2, g3, g4⟩ := K.cells i ds ro hi
      exact ⟨g1, vs, ty, by rw [← g2]; exact hne i _ he hi (by simp), g3.evo E, g4⟩
  · intro i es hi
    have he : i ≠ id := fun he => by subst he; simp [Cx.store, upd] at hi
    simp [Cx.store, upd, he] at hi
    obtain ⟨g1, ms, cl, g2, g3, g4⟩ := K.maps i es hi
    exact ⟨g1, ms, cl, by rw [← g2]; exact hne i _ he hi (by simp), g3, fun j k v en hx hv => ⟨(g4 j k v en hx hv).1, (g4 j k v en hx hv).2.evo E⟩⟩
  · intro i hi
    have he : i ≠ id := fun he => by subst he; simp [Cx.store, upd] at hi
    simp [Cx.store, upd, he] at hi
    obtain ⟨g1, vs, ty, g2⟩ := K.toks i hi
    exact ⟨g1, vs, ty, by rw [← g2]; exact hne i _ he hi (by simp)⟩
  · intro i j hij hi hj
    exact K.inj i j hij (hlive i hi) (hlive j hj)
  · intro i hi
    have he : i ≠ id := fun he => by subst he; rw [K.fresh i hi] at hid; cases hid
    simpa [Cx.store, upd, he] using K.fresh i hi

/-! ### a token is spent -/
def Cx.kill (c : Cx) (τ : Nat) : Cx := { c with hp := upd c.hp τ (some (.tok false)) }
theorem Evo.kill {c : Cx} {τ : Nat} (ht : c.hp τ = some (.tok true)) : Evo c (c.kill τ) where
  num := rfl
  base := rfl
  J := rfl
  below := Below.refl _ _
  imm := fun ad hI => by
    refine ⟨?_, fun v hv => hv⟩
    rcases hI with h1 | ⟨h1, h2, h3⟩
    · exact .inl h1
    · refine .inr ⟨h1, h2, fun hw => h3 ?_⟩
      rcases hw with ⟨i, ds, hi, hb⟩ | ⟨i, hi, hb, hlo⟩
      · by_cases he : i = τ
        · subst he; simp [Cx.kill, upd] at hi
        · simp [Cx.kill, upd, he] at hi; exact .inl ⟨i, ds, hi, hb⟩
      · by_cases he : i = τ
        · subst he; simp [Cx.kill, upd] at hi
        · simp [Cx.kill, upd, he] at hi; exact .inr ⟨i, hi, hb, hlo⟩
  ids := fun i hi => by
    by_cases he : i = τ
    · subst he; simp [Cx.kill, upd]
    · exact ⟨by simpa [Cx.kill, upd, he] using hi, rfl⟩
  tok := fun i hi h => by
    by_cases he : i = τ
    · subst he; simp [Cx.kill, upd] at h
    · simp [Cx.kill, upd, he] at h; exact ⟨h, fun vs _ hv => ⟨vs, hv, rfl⟩⟩
theorem Ok.kill {c : Cx} {nx : Nat} (K : Ok c nx) {τ : Nat} (ht : c.hp τ = some (.tok true)) : Ok (c.kill τ) nx := by
  have E := Evo.kill ht
  have hlive : ∀ i, (c.kill τ).live i → c.live i := by
    intro i ⟨b, hb, hn⟩
    by_cases he : i = τ
    · subst he; exact live_of ht (by simp)
    · simp [Cx.kill, upd, he] at hb; exact ⟨b, hb, hn⟩
  refine ⟨K.basele, ?_, ?_, ?_, fun i j hij hi hj => K.inj i j hij (hlive i hi) (hlive j hj), ?_⟩
  · intro i ds ro hi
    have he : i ≠ τ := fun he => by subst he; simp [Cx.kill, upd] at hi
    simp [Cx.kill, upd, he] at hi
    obtain ⟨g1, vs, ty, g2, g3, g4⟩ := K.cells i ds ro hi
    exact ⟨g1, vs, ty, g2, g3.evo E, g4⟩
  · intro i es hi
    have he : i ≠ τ := fun he => by subst he; simp [Cx.kill, upd] at hi
    simp [Cx.kill, upd, he] at hi
    obtain ⟨g1, ms, cl, g2, g3, g4⟩ := K.maps i es hi
    exact ⟨g1, ms, cl, g2, g3, fun j k v en hx hv => ⟨(g4 j k v en hx hv).1, (g4 j k v en hx hv).2.evo E⟩⟩
  · intro i hi
    have he : i ≠ τ := fun he => by subst he; simp [Cx.kill, upd] at hi
    simp [Cx.kill, upd, he] at hi
    exact K.toks i hi
  · intro i hi
    have he : i ≠ τ := fun he => by subst he; rw [K.fresh i hi] at ht; cases ht
    simpa [Cx.kill, upd, he] using K.fresh i hi

/-! ### an append in place -/
def Cx.onto (c : Cx) (τ id k : Nat) (us : List Value) : Cx :=
  { c with w := c.w.setCells (c.loc τ).1 (c.loc τ).2 us, loc := upd c.loc id ((c.loc τ).1, (c.loc τ).2 + k), hp := upd (upd c.hp τ (some (.tok false))) id (some (.tok true)) }
theorem lset_array (us : List Value) (o : Nat) (vs : List Value) : (lset us o vs).toArray.size = us.length := by simp [lset_length]
theorem heap_setCells_cells {w : World} {b : Nat} {vs : Array Value} {ty : TypeId} (h : w.heap[b]? = some (.cells vs ty (0, 0))) (o : Nat) (us : List Value) :
    ∃ vs', (w.setCells b o us).heap[b]? = some (.cells vs' ty (0, 0)) ∧ vs'.size = vs.size := by
  refine ⟨_, heap_setCells_same b us o w vs.toList ty (0, 0) (by simpa using h), ?_⟩
  simp [lset_length]
theorem Evo.onto {c : Cx} {nx : Nat} (K : Ok c nx) {τ id k : Nat} {us : List Value} (ht : c.hp τ = some (.tok true)) (hid : c.hp id = none) : Evo c (c.onto τ id k us) := by
  have hτ : τ ≠ id := fun he => by rw [he, hid] at ht; cases ht
  have hsome : ∀ i, (c.hp i).isSome → i ≠ id := fun i hi he => by rw [he, hid] at hi; cases hi
  refine ⟨rfl, rfl, rfl, below_setCells _ _ _ _ (Below.refl _ _) (K.toks τ ht).1, ?_, ?_, ?_⟩
  · intro ad hI
    have hout : ad.block = (c.loc τ).1 → ad.off < (c.loc τ).2 := by
      intro he
      rcases hI with ⟨h1, _⟩ | ⟨_, _, h3⟩
      · have := (K.toks τ ht).1; omega
      · rcases Nat.lt_or_ge ad.off (c.loc τ).2 with h | h
        · exact h
        · exact absurd (.inr ⟨τ, ht, he.symm, h⟩) h3
    refine ⟨?_, fun v hv => by rw [← hv]; exact World.cell?_setCells_out _ _ _ _ _ (fun h _ => .inl (hout h))⟩
    rcases hI with h1 | ⟨h1, h2, h3⟩
    · exact .inl h1
    · refine .inr ⟨h1, by show _ < (c.w.setCells _ _ _).heap.size; rw [size_setCells]; exact h2, fun hw => h3 ?_⟩
      rcases hw with ⟨i, ds, hi, hb⟩ | ⟨i, hi, hb, hlo⟩
      · by_cases he : i = id
        · subst he; simp [Cx.onto, upd] at hi
        · by_cases he' : i = τ
          · subst he'; simp [Cx.onto, upd, he] at hi
          · simp [Cx.onto, upd, he, he'] at hi hb; exact .inl ⟨i, ds, hi, hb⟩
      · by_cases he : i = id
        · subst he
          simp [Cx.onto, upd] at hb hlo
          exact .inr ⟨τ, ht, hb, by omega⟩
        · by_cases he' : i = τ
          · subst he'; simp [Cx.onto, upd, he] at hi
          · simp [Cx.onto, upd, he, he'] at hi hb hlo; exact .inr ⟨i, hi, hb, hlo⟩
  · intro i hi
    have he := hsome i hi
    by_cases he' : i = τ
    · subst he'; simp [Cx.onto, upd, he]
    · refine ⟨by simpa [Cx.onto, upd, he, he'] using hi, by simp [Cx.onto, upd, he]⟩
  · intro i hi h
    have he := hsome i hi
    by_cases he' : i = τ
    · subst he'; simp [Cx.onto, upd, he] at h
    · simp [Cx.onto, upd, he, he'] at h
      refine ⟨h, fun vs ty hv => ⟨vs, ?_, rfl⟩⟩
      show (c.w.setCells _ _ _).heap[_]? = _
      rw [heap_setCells_other _ _ _ _ _ (K.inj i τ he' (live_of h (by simp)) (live_of ht (by simp)))]
      exact hv
theorem Ok.onto {c : Cx} {nx : Nat} (K : Ok c nx) {τ id k : Nat} {us : List Value} (ht : c.hp τ = some (.tok true)) (hid : c.hp id = none) (hlt : id < nx) : Ok (c.onto τ id k us) nx := by
  have E := Evo.onto K (k := k) (us := us) ht hid
  have hτ : τ ≠ id := fun he => by rw [he, hid] at ht; cases ht
  have lt := live_of ht (by simp)
  -- who lives then: the new one, or an elder one other than τ
  have hlive : ∀ i, (c.onto τ id k us).live i → (i = id ∨ (i ≠ id ∧ i ≠ τ ∧ c.live i)) := by
    intro i ⟨b, hb, hn⟩
    by_cases he : i = id
    · exact .inl he
    · by_cases he' : i = τ
      · subst he'; simp [Cx.onto, upd, he] at hb; exact absurd hb.symm hn
      · simp [Cx.onto, upd, he, he'] at hb; exact .inr ⟨he, he', b, hb, hn⟩
  have hne : ∀ i b, i ≠ id → i ≠ τ → c.hp i = some b → b ≠ .tok false → (c.onto τ id k us).w.heap[(c.loc i).1]? = c.w.heap[(c.loc i).1]? := fun i b he he' hb hn =>
    heap_setCells_other _ _ _ _ _ (K.inj i τ he' (live_of hb hn) lt)
  refine ⟨?_, ?_, ?_, ?_, ?_, ?_⟩
  · show c.base ≤ (c.w.setCells _ _ _).heap.size
    rw [size_setCells]; exact K.basele
  · intro i ds ro hi
    have he : i ≠ id := fun he => by subst he; simp [Cx.onto, upd] at hi
    have he' : i ≠ τ := fun he' => by subst he'; simp [Cx.onto, upd, he] at hi
    simp [Cx.onto, upd, he, he'] at hi
    obtain ⟨g1, vs, ty, g2, g3, g4⟩ := K.cells i ds ro hi
    have hl : (c.onto τ id k us).loc i = c.loc i := by simp [Cx.onto, upd, he]
    rw [hl]
    exact ⟨g1, vs, ty, by rw [← g2]; exact hne i _ he he' hi (by simp), g3.evo E, g4⟩
  · intro i es hi
    have he : i ≠ id := fun he => by subst he; simp [Cx.onto, upd] at hi
    have he' : i ≠ τ := fun he' => by subst he'; simp [Cx.onto, upd, he] at hi
    simp [Cx.onto, upd, he, he'] at hi
    obtain ⟨g1, ms, cl, g2, g3, g4⟩ := K.maps i es hi
    have hl : (c.onto τ id k us).loc i = c.loc i := by simp [Cx.onto, upd, he]
    rw [hl]
    exact ⟨g1, ms, cl, by rw [← g2]; exact hne i _ he he' hi (by simp), g3, fun j k v en hx hv => ⟨(g4 j k v en hx hv).1, (g4 j k v en hx hv).2.evo E⟩⟩
  · intro i hi
    by_cases he : i = id
    · subst he
      obtain ⟨g1, vs, ty, g2⟩ := K.toks τ ht
      obtain ⟨vs', g3, _⟩ := heap_setCells_cells g2 (c.loc τ).2 us
      have hl : (c.onto τ i k us).loc i = ((c.loc τ).1, (c.loc τ).2 + k) := by simp [Cx.onto, upd]
      rw [hl]
      exact ⟨g1, vs', ty, g3⟩
    · have he' : i ≠ τ := fun he' => by subst he'; simp [Cx.onto, upd, he] at hi
      simp [Cx.onto, upd, he, he'] at hi
      obtain ⟨g1, vs, ty, g2⟩ := K.toks i hi
      have hl : (c.onto τ id k us).loc i = c.loc i := by simp [Cx.onto, upd, he]
      rw [hl]
      exact ⟨g1, vs, ty, by rw [← g2]; exact hne i _ he he' hi (by simp)⟩
  · intro i j hij hi hj
    have hl : ∀ i, i ≠ id → (c.onto τ id k us).loc i = c.loc i := fun i he => by simp [Cx.onto, upd, he]
    have hls : (c.onto τ id k us).loc id = ((c.loc τ).1, (c.loc τ).2 + k) := by simp [Cx.onto, upd]
    rcases hlive i hi with rfl | ⟨hi1, hi2, hi3⟩
    · rcases hlive j hj with rfl | ⟨hj1, hj2, hj3⟩
      · exact absurd rfl hij
      · rw [hls, hl j hj1]; exact fun h => K.inj j τ hj2 hj3 lt h.symm
    · rcases hlive j hj with rfl | ⟨hj1, hj2, hj3⟩
      · rw [hls, hl i hi1]; exact K.inj i τ hi2 hi3 lt
      · rw [hl i hi1, hl j hj1]; exact K.inj i j hij hi3 hj3
  · intro i hi
    have he : i ≠ id := by omega
    have he' : i ≠ τ := fun he => by subst he; rw [K.fresh i hi] at ht; cases ht
    simpa [Cx.onto, upd, he, he'] using K.fresh i hi

/-! ### locks -/
def Cx.lock (c : Cx) (ids : List Nat) : Cx := { c with hp := Ab.lock c.hp ids }
theorem lock_cases (hp : Nat → Option Blk) (ids : List Nat) (i : Nat) : (Ab.lock hp ids i = hp i) ∨ (i ∈ ids ∧ ∃ cs ro, hp i = some (.cells cs ro) ∧ Ab.lock hp ids i = some (.cells cs true)) := by
  unfold Ab.lock
  by_cases h : ids.contains i = true
  · rw [if_pos h]
    cases hb : hp i with
    | none => exact .inl rfl
    | some b =>
      cases b with
      | cells cs ro => exact .inr ⟨by simpa using h, cs, ro, rfl, rfl⟩
      | map es => exact .inl rfl
      | tok l => exact .inl rfl
  · rw [if_neg h]; exact .inl rfl
theorem lock_mem {hp : Nat → Option Blk} {ids : List Nat} {i : Nat} (h : i ∈ ids) {cs ro} (hi : hp i = some (.cells cs ro)) : Ab.lock hp ids i = some (.cells cs true) := by
  unfold Ab.lock; rw [if_pos (by simpa using h), hi]
theorem Evo.lock (c : Cx) (ids : List Nat) : Evo c (c.lock ids) where
  num := rfl
  base := rfl
  J := rfl
  below := Below.refl _ _
  imm := fun ad hI => by
    refine ⟨?_, fun v hv => hv⟩
    rcases hI with h1 | ⟨h1, h2, h3⟩
    · exact .inl h1
    · refine .inr ⟨h1, h2, fun hw => h3 ?_⟩
      rcases hw with ⟨i, ds, hi, hb⟩ | ⟨i, hi, hb, hlo⟩
      · rcases lock_cases c.hp ids i with h | ⟨_, cs, ro, _, h⟩
        · exact .inl ⟨i, ds, by rw [← h]; exact hi, hb⟩
        · rw [show (c.lock ids).hp i = some (.cells cs true) from h] at hi; cases hi
      · rcases lock_cases c.hp ids i with h | ⟨_, cs, ro, _, h⟩
        · exact .inr ⟨i, by rw [← h]; exact hi, hb, hlo⟩
        · rw [show (c.lock ids).hp i = some (.cells cs true) from h] at hi; cases hi
  ids := fun i hi => by
    refine ⟨?_, rfl⟩
    rcases lock_cases c.hp ids i with h | ⟨_, cs, ro, _, h⟩
    · show (Ab.lock c.hp ids i).isSome; rw [h]; exact hi
    · show (Ab.lock c.hp ids i).isSome; rw [h]; rfl
  tok := fun i hi ht => by
    rcases lock_cases c.hp ids i with h | ⟨_, cs, ro, _, h⟩
    · exact ⟨by rw [← h]; exact ht, fun vs _ hv => ⟨vs, hv, rfl⟩⟩
    · rw [show (c.lock ids).hp i = some (.cells cs true) from h] at ht; cases ht
theorem Ok.lock {c : Cx} {nx : Nat} (K : Ok c nx) (ids : List Nat) : Ok (c.lock ids) nx := by
  have E := Evo.lock c ids
  have hlive : ∀ i, (c.lock ids).live i → c.live i := by
    intro i ⟨b, hb, hn⟩
    rcases lock_cases c.hp ids i with h | ⟨_, cs, ro, h1, _⟩
    · exact ⟨b, by rw [← h]; exact hb, hn⟩
    · exact ⟨_, h1, by simp⟩
  refine ⟨K.basele, ?_, ?_, ?_, fun i j hij hi hj => K.inj i j hij (hlive i hi) (hlive j hj), ?_⟩
  · intro i ds ro hi
    rcases lock_cases c.hp ids i with h | ⟨_, cs, ro', h1, h⟩
    · obtain ⟨g1, vs, ty, g2, g3, g4⟩ := K.cells i ds ro (by rw [← h]; exact hi)
      exact ⟨g1, vs, ty, g2, g3.evo E, g4⟩
    · rw [show (c.lock ids).hp i = some (.cells cs true) from h] at hi
      cases hi
      obtain ⟨g1, vs, ty, g2, g3, g4⟩ := K.cells i _ _ h1
      exact ⟨g1, vs, ty, g2, g3.evo E, g4⟩
  · intro i es hi
    rcases lock_cases c.hp ids i with h | ⟨_, cs, ro', h1, h⟩
    · obtain ⟨g1, ms, cl, g2, g3, g4⟩ := K.maps i es (by rw [← h]; exact hi)
      exact ⟨g1, ms, cl, g2, g3, fun j k v en hx hv => ⟨(g4 j k v en hx hv).1, (g4 j k v en hx hv).2.evo E⟩⟩
    · rw [show (c.lock ids).hp i = some (.cells cs true) from h] at hi; cases hi
  · intro i hi
    rcases lock_cases c.hp ids i with h | ⟨_, cs, ro', h1, h⟩
    · exact K.toks i (by rw [← h]; exact hi)
    · rw [show (c.lock ids).hp i = some (.cells cs true) from h] at hi; cases hi
  · intro i hi
    rcases lock_cases c.hp ids i with h | ⟨_, cs, ro', h1, h⟩
    · show Ab.lock c.hp ids i = none; rw [h]; exact K.fresh i hi
    · rw [K.fresh i hi] at h1; cases h1

/-! ### what leads into the heap is laid out -/
theorem add_add (ad : Addr) (i j : Nat) (hs : ad.spot = none) : (ad.add i).add j = ad.add (i + j) := by
  obtain ⟨b, o, s⟩ := ad
  simp only at hs
  subst hs
  simp only [Addr.add]
  by_cases hi : i = 0
  · subst hi; simp
  · by_cases hj : j = 0
    · subst hj; simp [hi]
    · simp [hi, hj]; omega
theorem add_mk (b o j : Nat) : (⟨b, o, none⟩ : Addr).add j = ⟨b, o + j, none⟩ := by
  simp only [Addr.add]; split
  · subst_vars; rfl
  · rfl
theorem cell_of_heap {w : World} {b : Nat} {vs : Array Value} {ty : TypeId} {f : Nat × Nat} (h : w.heap[b]? = some (.cells vs ty f)) (o : Nat) : w.cell? ⟨b, o, none⟩ = vs[o]? := by
  simp [World.cell?, h]
theorem Reps.to_list {c m cs} {vs : List Value} (h : Reps c m cs vs) : Reps c m cs vs := h

mutual
theorem frz_rep {c : Cx} {nx : Nat} (K : Ok c nx) {hp : Nat → Option Blk} (hh : ∀ i b, hp i = some b → c.hp i = some b) {ids : List Nat} : ∀ (k : Nat) {x x' : AV} {v : Value}, frz hp k x = some x' → (∀ i ∈ vis hp k x, i ∈ ids) → Rep c true x v → Rep (c.lock ids) false x' v
  | 0, _, _, _, h, _, _ => by simp [frz] at h
  | k + 1, x, x', v, h, hv, hr => by
    cases hr with
    | undef => simp only [frz] at h; cases h; exact .undef
    | b x => simp only [frz] at h; cases h; exact .b x
    | i k n => simp only [frz] at h; cases h; exact .i k n
    | s x => simp only [frz] at h; cases h; exact .s x
    | nilp => simp only [frz] at h; cases h; exact .nilp
    | nilf => simp only [frz] at h; cases h; exact .nilf
    | nili => simp only [frz] at h; cases h; exact .nili
    | @agg _ cs vs hl hc =>
      simp only [frz] at h
      cases hf : frzL hp k cs with
      | none => rw [hf] at h; cases h
      | some cs' =>
        rw [hf] at h; cases h
        have := frzL_rep K hh k hf (fun i hi => hv i (by simpa [vis] using hi)) ⟨hl, hc⟩
        exact .agg vs this.1 this.2
    | @tup _ cs vs hl hc =>
      simp only [frz] at h
      cases hf : frzL hp k cs with
      | none => rw [hf] at h; cases h
      | some cs' =>
        rw [hf] at h; cases h
        have := frzL_rep K hh k hf (fun i hi => hv i (by simpa [vis] using hi)) ⟨hl, hc⟩
        exact .tup vs this.1 this.2
    | sl ad vs hc hm hr ho hz h1 hl ha hk hrep ht =>
      simp only [frz] at h; cases h
      exact Rep.evo (Evo.lock c ids) (.sl ad vs hc hm (fun h => by cases h) (fun _ _ _ h => by cases h) hz h1 hl ha hk hrep (fun _ _ h => by cases h))
    | ptr ad vs h1 hl hk hrep =>
      simp only [frz] at h; cases h
      exact Rep.evo (Evo.lock c ids) (.ptr ad vs h1 hl hk hrep)
    | mp id off hs =>
      simp only [frz] at h
      cases hb : hp id with
      | none => rw [hb] at h; cases h
      | some b =>
        rw [hb] at h
        cases b with
        | map es => cases h
        | tok l => cases h
        | cells cs ro =>
          simp only at h
          cases hf : frzL hp k (cs.drop off) with
          | none => rw [hf] at h; cases h
          | some cs' =>
            rw [hf] at h; cases h
            have hci := hh _ _ hb
            obtain ⟨g1, vs, ty, g2, g3, g4⟩ := K.cells id cs ro hci
            have hid : id ∈ ids := hv id (by simp [vis])
            have := frzL_rep K hh k hf (fun i hi => hv i (by
              simp only [vis, hb]
              exact List.mem_cons_of_mem _ hi)) (g3.drop off)
            refine .ptr ⟨(c.loc id).1, off, none⟩ (vs.drop off) (fun u hu => g3.ones g4 u (List.mem_of_mem_drop hu)) this.1 (fun j u hu => ?_) this.2
            rw [List.getElem?_drop] at hu
            rw [add_mk]
            refine ⟨?_, ?_⟩
            · refine .inr ⟨g1, (Array.getElem?_eq_some_iff.1 g2).1, fun hw => ?_⟩
              rcases hw with ⟨i, ds, hi, hbk⟩ | ⟨i, hi, hbk, _⟩
              · by_cases he : i = id
                · subst he; rw [show (c.lock ids).hp i = _ from lock_mem hid hci] at hi; cases hi
                · have hli : c.live i := by
                    rcases lock_cases c.hp ids i with h | ⟨_, cs, ro, h1, _⟩
                    · exact ⟨_, by rw [← h]; exact hi, by simp⟩
                    · exact ⟨_, h1, by simp⟩
                  exact K.inj i id he hli (live_of hci (by simp)) hbk
              · by_cases he : i = id
                · subst he; rw [show (c.lock ids).hp i = _ from lock_mem hid hci] at hi; cases hi
                · have hli : c.live i := by
                    rcases lock_cases c.hp ids i with h | ⟨_, cs, ro, h1, _⟩
                    · exact ⟨_, by rw [← h]; exact hi, by simp⟩
                    · exact ⟨_, h1, by simp⟩
                  exact K.inj i id he hli (live_of hci (by simp)) hbk
            · show c.w.cell? _ = _
              rw [cell_of_heap g2]
              simpa using hu
    | ms id off n cap hs hcap hm =>
      simp only [frz] at h
      cases hb : hp id with
      | none => rw [hb] at h; cases h
      | some b =>
        rw [hb] at h
        cases b with
        | map es => cases h
        | tok l => cases h
        | cells cs ro =>
          simp only at h
          cases hf : frzL hp k (cs.drop off) with
          | none => rw [hf] at h; cases h
          | some cs' =>
            rw [hf] at h; cases h
            have hci := hh _ _ hb
            obtain ⟨g1, vs, ty, g2, g3, g4⟩ := K.cells id cs ro hci
            have hid : id ∈ ids := hv id (by simp [vis])
            have := frzL_rep K hh k hf (fun i hi => hv i (by
              simp only [vis, hb]
              exact List.mem_cons_of_mem _ hi)) (g3.drop off)
            refine .sl ⟨(c.loc id).1, off, none⟩ (vs.drop off) hcap hm (fun h => by cases h) (fun _ _ _ h => by cases h) (fun _ => rfl) (fun u hu => g3.ones g4 u (List.mem_of_mem_drop hu)) this.1 (fun _ => rfl) (fun j u hu => ?_) this.2 (fun _ _ h => by cases h)
            rw [List.getElem?_drop] at hu
            rw [add_mk]
            refine ⟨?_, ?_⟩
            · refine .inr ⟨g1, (Array.getElem?_eq_some_iff.1 g2).1, fun hw => ?_⟩
              rcases hw with ⟨i, ds, hi, hbk⟩ | ⟨i, hi, hbk, _⟩
              · by_cases he : i = id
                · subst he; rw [show (c.lock ids).hp i = _ from lock_mem hid hci] at hi; cases hi
                · have hli : c.live i := by
                    rcases lock_cases c.hp ids i with h | ⟨_, cs, ro, h1, _⟩
                    · exact ⟨_, by rw [← h]; exact hi, by simp⟩
                    · exact ⟨_, h1, by simp⟩
                  exact K.inj i id he hli (live_of hci (by simp)) hbk
              · by_cases he : i = id
                · subst he; rw [show (c.lock ids).hp i = _ from lock_mem hid hci] at hi; cases hi
                · have hli : c.live i := by
                    rcases lock_cases c.hp ids i with h | ⟨_, cs, ro, h1, _⟩
                    · exact ⟨_, by rw [← h]; exact hi, by simp⟩
                    · exact ⟨_, h1, by simp⟩
                  exact K.inj i id he hli (live_of hci (by simp)) hbk
            · show c.w.cell? _ = _
              rw [cell_of_heap g2]
              simpa using hu
    | @fn _ f as bs vs us hl hl' hr hr' =>
      simp only [frz] at h
      cases hf : frzL hp k as with
      | none => rw [hf] at h; cases h
      | some as' =>
        rw [hf] at h
        cases hf' : frzL hp k bs with
        | none => rw [hf'] at h; cases h
        | some bs' =>
          rw [hf'] at h; cases h
          have h1 := frzL_rep K hh k hf (fun i hi => hv i (by simp only [vis]; exact List.mem_append_left _ hi)) ⟨hl, hr⟩
          have h2 := frzL_rep K hh k hf' (fun i hi => hv i (by simp only [vis]; exact List.mem_append_right _ hi)) ⟨hl', hr'⟩
          exact .fn vs us h1.1 h2.1 h1.2 h2.2
    | mm id hs => simp only [frz] at h; cases h
theorem frzL_rep {c : Cx} {nx : Nat} (K : Ok c nx) {hp : Nat → Option Blk} (hh : ∀ i b, hp i = some b → c.hp i = some b) {ids : List Nat} : ∀ (k : Nat) {cs cs' : List AV} {vs : List Value}, frzL hp k cs = some cs' → (∀ i ∈ cs.flatMap (vis hp k), i ∈ ids) → Reps c true cs vs → Reps (c.lock ids) false cs' vs
  | k, [], cs', vs, h, _, hr => by
    simp only [frzL] at h; cases h
    rw [hr.nil_inv]; exact Reps.nil
  | k, x :: cs, cs', vs, h, hv, hr => by
    simp only [frzL] at h
    obtain ⟨v, us, rfl, hx, ht⟩ := hr.cons_inv
    split at h
    · rename_i y ys hy hys
      cases h
      exact Reps.cons (frz_rep K hh k hy (fun i hi => hv i (by simp [hi])) hx) (frzL_rep K hh k hys (fun i hi => hv i (by
        simp only [List.flatMap_cons]; exact List.mem_append_right _ hi)) ht)
    · cases h
end

/-! ### what leads nowhere into the heap -/
mutual
theorem vis_none : ∀ (k : Nat) {x y : AV}, frz (fun _ => none) k x = some y → vis (fun _ => none) k x = []
  | 0, _, _, h => by simp [frz] at h
  | k + 1, x, y, h => by
    cases x with
    | agg cs =>
      simp only [frz] at h
      cases hf : frzL (fun _ => none) k cs with
      | none => rw [hf] at h; cases h
      | some ds => simp only [vis]; exact visL_none k hf
    | tup cs =>
      simp only [frz] at h
      cases hf : frzL (fun _ => none) k cs with
      | none => rw [hf] at h; cases h
      | some ds => simp only [vis]; exact visL_none k hf
    | fn f as bs =>
      simp only [frz] at h
      cases hf : frzL (fun _ => none) k as with
      | none => rw [hf] at h; cases h
      | some as' =>
        cases hf' : frzL (fun _ => none) k bs with
        | none => rw [hf, hf'] at h; cases h
        | some bs' => simp only [vis]; rw [visL_none k hf, visL_none k hf']; rfl
    | ifc t v =>
      simp only [frz] at h
      cases hf : frz (fun _ => none) k v with
      | none => rw [hf] at h; cases h
      | some v' => simp only [vis]; exact vis_none k hf
    | mp id off => simp [frz] at h
    | ms id off n => simp [frz] at h
    | mm id => simp [frz] at h
    | undef => rfl
    | b x => rfl
    | i k n => rfl
    | s x => rfl
    | nilp => rfl
    | nilf => rfl
    | nili => rfl
    | sl cs n t => rfl
    | ptr cs => rfl
theorem visL_none : ∀ (k : Nat) {cs ds : List AV}, frzL (fun _ => none) k cs = some ds → cs.flatMap (vis (fun _ => none) k) = []
  | k, [], _, _ => rfl
  | k, x :: cs, ds, h => by
    simp only [frzL] at h
    split at h
    · rename_i hx hs
      rw [List.flatMap_cons, vis_none k hx, visL_none k hs]
      rfl
    · cases h
end
theorem lock_nil (c : Cx) : c.lock [] = c := by
  unfold Cx.lock
  congr 1
theorem frzL_none {c : Cx} {nx : Nat} (K : Ok c nx) {k : Nat} {cs cs' : List AV} {vs : List Value} (h : frzL (fun _ => none) k cs = some cs') (hr : Reps c true cs vs) : Reps c false cs' vs := by
  have := frzL_rep K (hp := fun _ => none) (ids := []) (fun _ _ h => by cases h) k h (by rw [visL_none k h]; exact fun _ h => h) hr
  rwa [lock_nil] at this
end Go.Ab
