/- What a value of the abstract machine stands for in a world; how that lives on. -/
import Derived.Test.YtfhinaopoffcnaaAb
import Derived.Below
import Derived.Deep.AppendSrc
import Derived.Orders
namespace Go.Ab
open Go.RowKit

/-- A world, and where the heap's ids lie in it. 'base': blocks below it were there when the call began; 'J': which of their cells nobody writes. -/
structure Cx where
  num : Nat → Nat
  base : Nat
  J : Addr → Prop
  w : World
  loc : Nat → Nat × Nat
  hp : Nat → Option Blk

def Cx.wr (c : Cx) (ad : Addr) : Prop :=
  (∃ id cs, c.hp id = some (.cells cs false) ∧ (c.loc id).1 = ad.block) ∨
  (∃ id, c.hp id = some (.tok true) ∧ (c.loc id).1 = ad.block ∧ (c.loc id).2 ≤ ad.off)
/-- A cell that is never written again. -/
def Cx.I (c : Cx) (ad : Addr) : Prop := (ad.block < c.base ∧ c.J ad) ∨ (c.base ≤ ad.block ∧ ad.block < c.w.heap.size ∧ ¬ c.wr ad)

def TokOk (c : Cx) (τ e n len : Nat) (a : Option Addr) (cap : Nat) : Prop :=
  (c.hp τ).isSome ∧ (c.hp τ = some (.tok true) → len = n * e ∧ ∃ off, a = some ⟨(c.loc τ).1, off, none⟩ ∧ (c.loc τ).2 = off + n * e ∧
    ∃ vs ty, c.w.heap[(c.loc τ).1]? = some (.cells vs ty (0, 0)) ∧ off + cap * e ≤ vs.size)

inductive Rep (c : Cx) : Bool → AV → Value → Prop
  | undef {m} : Rep c m .undef Go.undef
  | b {m} (x) : Rep c m (.b x) (.bool x)
  | i {m} (k n) : Rep c m (.i k n) (.int k n)
  | s {m} (x) : Rep c m (.s x) (.string x)
  | nilp {m} : Rep c m .nilp (.pointer none)
  | nilf {m} : Rep c m .nilf .nilFunc
  | nili {m} : Rep c m .nili .nilIface
  | agg {m cs} (vs : List Value) (hl : cs.length = vs.length) (h : ∀ (j : Nat) x v, cs[j]? = some x → vs[j]? = some v → Rep c m x v) : Rep c m (.agg cs) (.agg vs.toArray)
  | tup {m cs} (vs : List Value) (hl : cs.length = vs.length) (h : ∀ (j : Nat) x v, cs[j]? = some x → vs[j]? = some v → Rep c m x v) : Rep c m (.tup cs) (.tuple vs.toArray)
  | sl {m cs n t a cap} (ad : Addr) (vs : List Value) (hc : n ≤ cap) (hm : cap ≤ maxLen) (hr : t = .rig → cap = n) (ho : m = false → ∀ τ e, t ≠ .own τ e)
      (hz : 0 < n → a.isSome) (h1 : ∀ v ∈ vs, v.oneCell' = true) (hl : cs.length = vs.length) (ha : cs ≠ [] → a = some ad) (hk : ∀ (j : Nat) v, vs[j]? = some v → c.I (ad.add j) ∧ c.w.cell? (ad.add j) = some v)
      (h : ∀ (j : Nat) x v, cs[j]? = some x → vs[j]? = some v → Rep c false x v) (ht : ∀ τ e, t = .own τ e → TokOk c τ e n cs.length a cap) : Rep c m (.sl cs n t) (.slice a n cap)
  | ptr {m cs} (ad : Addr) (vs : List Value) (h1 : ∀ v ∈ vs, v.oneCell' = true) (hl : cs.length = vs.length) (hk : ∀ (j : Nat) v, vs[j]? = some v → c.I (ad.add j) ∧ c.w.cell? (ad.add j) = some v)
      (h : ∀ (j : Nat) x v, cs[j]? = some x → vs[j]? = some v → Rep c false x v) : Rep c m (.ptr cs) (.pointer (some ad))
  | mp (id off) (h : (c.hp id).isSome) : Rep c true (.mp id off) (.pointer (some ⟨(c.loc id).1, off, none⟩))
  | ms (id off n cap) (h : (c.hp id).isSome) (hc : n ≤ cap) (hm : cap ≤ maxLen) : Rep c true (.ms id off n) (.slice (some ⟨(c.loc id).1, off, none⟩) n cap)
  | fn {m f as bs} (vs us : List Value) (hl : as.length = vs.length) (hl' : bs.length = us.length) (h : ∀ (j : Nat) x v, as[j]? = some x → vs[j]? = some v → Rep c m x v)
      (h' : ∀ (j : Nat) x v, bs[j]? = some x → us[j]? = some v → Rep c m x v) : Rep c m (.fn f as bs) (.func (.func (c.num f)) vs.toArray us.toArray)
  | mm (id) (h : (c.hp id).isSome) : Rep c true (.mm id) (.map (some (c.loc id).1))

/-- From one state to a later one. -/
structure Evo (c c' : Cx) : Prop where
  num : c'.num = c.num
  base : c'.base = c.base
  J : c'.J = c.J
  below : Below c.base c.w c'.w
  imm : ∀ ad, c.I ad → c'.I ad ∧ ∀ v, c.w.cell? ad = some v → c'.w.cell? ad = some v
  ids : ∀ id, (c.hp id).isSome → (c'.hp id).isSome ∧ c'.loc id = c.loc id
  tok : ∀ id, (c.hp id).isSome → c'.hp id = some (.tok true) → c.hp id = some (.tok true) ∧
    ∀ vs ty, c.w.heap[(c.loc id).1]? = some (.cells vs ty (0, 0)) → ∃ vs', c'.w.heap[(c.loc id).1]? = some (.cells vs' ty (0, 0)) ∧ vs'.size = vs.size

theorem Evo.refl (c : Cx) : Evo c c := ⟨rfl, rfl, rfl, Below.refl _ _, fun _ h => ⟨h, fun _ h => h⟩, fun _ h => ⟨h, rfl⟩, fun _ _ h => ⟨h, fun vs _ h => ⟨vs, h, rfl⟩⟩⟩
theorem Evo.trans {a b c : Cx} (h : Evo a b) (k : Evo b c) : Evo a c where
  num := k.num.trans h.num
  base := k.base.trans h.base
  J := k.J.trans h.J
  below := h.below.trans (h.base ▸ k.below)
  imm := fun ad hI => ⟨(k.imm ad (h.imm ad hI).1).1, fun v hv => (k.imm ad (h.imm ad hI).1).2 v ((h.imm ad hI).2 v hv)⟩
  ids := fun id hi => ⟨(k.ids id (h.ids id hi).1).1, (k.ids id (h.ids id hi).1).2.trans (h.ids id hi).2⟩
  tok := fun id hi ht => by
    obtain ⟨h1, h2⟩ := k.tok id (h.ids id hi).1 ht
    obtain ⟨h3, h4⟩ := h.tok id hi h1
    refine ⟨h3, fun vs ty hv => ?_⟩
    obtain ⟨vs', hv', hs'⟩ := h4 vs ty hv
    rw [← (h.ids id hi).2] at hv' ⊢
    obtain ⟨vs'', hv'', hs''⟩ := h2 vs' ty hv'
    exact ⟨vs'', hv'', hs''.trans hs'⟩

theorem TokOk.evo {c c' : Cx} (E : Evo c c') {τ e n len a cap} (h : TokOk c τ e n len a cap) : TokOk c' τ e n len a cap := by
  obtain ⟨h1, h2⟩ := h
  refine ⟨(E.ids τ h1).1, fun ht => ?_⟩
  obtain ⟨h3, h4⟩ := E.tok τ h1 ht
  obtain ⟨h5, off, h6, h7, vs, ty, h8, h9⟩ := h2 h3
  obtain ⟨vs', h10, h11⟩ := h4 vs ty h8
  rw [(E.ids τ h1).2]
  exact ⟨h5, off, h6, h7, vs', ty, h10, by omega⟩

theorem Rep.evo {c c' : Cx} (E : Evo c c') {m x v} (h : Rep c m x v) : Rep c' m x v := by
  induction h with
  | undef => exact .undef
  | b x => exact .b x
  | i k n => exact .i k n
  | s x => exact .s x
  | nilp => exact .nilp
  | nilf => exact .nilf
  | nili => exact .nili
  | agg vs hl _ ih => exact .agg vs hl ih
  | tup vs hl _ ih => exact .tup vs hl ih
  | sl ad vs hc hm hr ho hz h1 hl ha hk _ ht ih => exact .sl ad vs hc hm hr ho hz h1 hl ha (fun j v hv => ⟨(E.imm _ (hk j v hv).1).1, (E.imm _ (hk j v hv).1).2 v (hk j v hv).2⟩) ih (fun τ e h => (ht τ e h).evo E)
  | ptr ad vs h1 hl hk _ ih => exact .ptr ad vs h1 hl (fun j v hv => ⟨(E.imm _ (hk j v hv).1).1, (E.imm _ (hk j v hv).1).2 v (hk j v hv).2⟩) ih
  | mp id off h => rw [← (E.ids id h).2]; exact .mp id off (E.ids id h).1
  | ms id off n cap h hc hm => rw [← (E.ids id h).2]; exact .ms id off n cap (E.ids id h).1 hc hm
  | fn vs us hl hl' _ _ ih ih' => rw [← E.num]; exact .fn vs us hl hl' ih ih'
  | mm id h => rw [← (E.ids id h).2]; exact .mm id (E.ids id h).1

theorem Rep.up {c : Cx} {m x v} (h : Rep c m x v) : Rep c true x v := by
  induction h with
  | undef => exact .undef
  | b x => exact .b x
  | i k n => exact .i k n
  | s x => exact .s x
  | nilp => exact .nilp
  | nilf => exact .nilf
  | nili => exact .nili
  | agg vs hl _ ih => exact .agg vs hl ih
  | tup vs hl _ ih => exact .tup vs hl ih
  | sl ad vs hc hm hr ho hz h1 hl ha hk h ht _ => exact .sl ad vs hc hm hr (fun h => by cases h) hz h1 hl ha hk h ht
  | ptr ad vs h1 hl hk h _ => exact .ptr ad vs h1 hl hk h
  | mp id off h => exact .mp id off h
  | ms id off n cap h hc hm => exact .ms id off n cap h hc hm
  | fn vs us hl hl' _ _ ih ih' => exact .fn vs us hl hl' ih ih'
  | mm id h => exact .mm id h

theorem Rep.one {c : Cx} {m x v} (h : Rep c m x v) (h1 : one x = true) : v.oneCell' = true := by
  cases h <;> first | rfl | (simp [Ab.one] at h1)

/-- Rows of values, one by one. -/
def Reps (c : Cx) (m : Bool) (cs : List AV) (vs : List Value) : Prop := cs.length = vs.length ∧ ∀ (j : Nat) x v, cs[j]? = some x → vs[j]? = some v → Rep c m x v
theorem Reps.evo {c c' : Cx} (E : Evo c c') {m cs vs} (h : Reps c m cs vs) : Reps c' m cs vs := ⟨h.1, fun j x v hx hv => (h.2 j x v hx hv).evo E⟩
theorem Reps.nil {c m} : Reps c m [] [] := ⟨rfl, fun _ _ _ h => by simp at h⟩
theorem Reps.cons {c m x v cs vs} (h : Rep c m x v) (t : Reps c m cs vs) : Reps c m (x :: cs) (v :: vs) := by
  refine ⟨by simp [t.1], fun j y u hy hu => ?_⟩
  cases j with
  | zero => simp at hy hu; subst hy; subst hu; exact h
  | succ j => simp at hy hu; exact t.2 j y u hy hu
theorem Reps.cons_inv {c m x cs vs} (h : Reps c m (x :: cs) vs) : ∃ v us, vs = v :: us ∧ Rep c m x v ∧ Reps c m cs us := by
  cases vs with
  | nil => simp [Reps] at h
  | cons v us => exact ⟨v, us, rfl, h.2 0 x v rfl rfl, by simpa using h.1, fun j y u hy hu => h.2 (j + 1) y u (by simpa using hy) (by simpa using hu)⟩
theorem Reps.nil_inv {c m vs} (h : Reps c m [] vs) : vs = [] := by
  cases vs with
  | nil => rfl
  | cons _ _ => simp [Reps] at h
theorem Reps.append {c m cs vs ds us} (h : Reps c m cs vs) (k : Reps c m ds us) : Reps c m (cs ++ ds) (vs ++ us) := by
  refine ⟨by simp [h.1, k.1], fun j x v hx hv => ?_⟩
  by_cases hj : j < cs.length
  · rw [List.getElem?_append_left hj] at hx
    rw [List.getElem?_append_left (h.1 ▸ hj)] at hv
    exact h.2 j x v hx hv
  · rw [List.getElem?_append_right (by omega)] at hx
    rw [List.getElem?_append_right (by have := h.1; omega), ← h.1] at hv
    exact k.2 _ x v hx hv
theorem Reps.drop {c m cs vs} (h : Reps c m cs vs) (n : Nat) : Reps c m (cs.drop n) (vs.drop n) :=
  ⟨by simp [h.1], fun j x v hx hv => by rw [List.getElem?_drop] at hx hv; exact h.2 _ x v hx hv⟩
theorem Reps.take {c m cs vs} (h : Reps c m cs vs) (n : Nat) : Reps c m (cs.take n) (vs.take n) := by
  refine ⟨by simp [h.1], fun j x v hx hv => ?_⟩
  rw [List.getElem?_take] at hx hv
  split at hx
  · rename_i hj; simp only [hj, if_true] at hv; exact h.2 _ x v hx hv
  · cases hx
theorem Reps.set {c m cs vs} (h : Reps c m cs vs) (n : Nat) {x v} (k : Rep c m x v) : Reps c m (cs.set n x) (vs.set n v) := by
  refine ⟨by simp [h.1], fun j y u hy hu => ?_⟩
  by_cases hj : n = j
  · subst hj
    by_cases hl : n < cs.length
    · rw [List.getElem?_set_self hl] at hy
      rw [List.getElem?_set_self (h.1 ▸ hl)] at hu
      cases hy; cases hu; exact k
    · rw [List.getElem?_eq_none (by simp; omega)] at hy; cases hy
  · rw [List.getElem?_set_ne hj] at hy hu
    exact h.2 j y u hy hu
theorem Reps.up {c m cs vs} (h : Reps c m cs vs) : Reps c true cs vs := ⟨h.1, fun j x v hx hv => (h.2 j x v hx hv).up⟩
theorem Reps.ones {c m cs vs} (h : Reps c m cs vs) (h1 : cs.all Ab.one = true) : ∀ v ∈ vs, v.oneCell' = true := by
  intro v hv
  obtain ⟨j, hj, rfl⟩ := List.mem_iff_getElem.1 hv
  have hj' : j < cs.length := h.1 ▸ hj
  refine (h.2 j cs[j] vs[j] (List.getElem?_eq_getElem hj') (List.getElem?_eq_getElem hj)).one ?_
  exact List.all_eq_true.1 h1 _ (List.getElem_mem hj')
theorem Reps.get {c m cs vs} (h : Reps c m cs vs) {j : Nat} {x : AV} (hx : cs[j]? = some x) : ∃ v, vs[j]? = some v ∧ Rep c m x v := by
  have hj : j < cs.length := (List.getElem?_eq_some_iff.1 hx).1
  exact ⟨vs[j]'(h.1 ▸ hj), List.getElem?_eq_getElem _, h.2 j x _ hx (List.getElem?_eq_getElem _)⟩

/-! ### the state of the heap -/
def Cx.live (c : Cx) (id : Nat) : Prop := ∃ b, c.hp id = some b ∧ b ≠ .tok false
structure Ok (c : Cx) (nx : Nat) : Prop where
  basele : c.base ≤ c.w.heap.size
  cells : ∀ id cs ro, c.hp id = some (.cells cs ro) → c.base ≤ (c.loc id).1 ∧ ∃ (vs : List Value) (ty : TypeId), c.w.heap[(c.loc id).1]? = some (.cells vs.toArray ty (0, 0)) ∧ Reps c true cs vs ∧ cs.all Ab.one = true
  maps : ∀ id es, c.hp id = some (.map es) → c.base ≤ (c.loc id).1 ∧ ∃ (ms : List MapEntry) (clock : Nat), c.w.heap[(c.loc id).1]? = some (.map ms.toArray clock) ∧ es.length = ms.length ∧
    ∀ (j : Nat) k v en, es[j]? = some (k, v) → ms[j]? = some en → (∃ s, k = .s s ∧ en.key = .string s) ∧ Rep c true v en.val
  toks : ∀ id, c.hp id = some (.tok true) → c.base ≤ (c.loc id).1 ∧ ∃ (vs : Array Value) (ty : TypeId), c.w.heap[(c.loc id).1]? = some (.cells vs ty (0, 0))
  inj : ∀ i j, i ≠ j → c.live i → c.live j → (c.loc i).1 ≠ (c.loc j).1
  fresh : ∀ id, nx ≤ id → c.hp id = none

theorem Ok.lt {c : Cx} {nx : Nat} (h : Ok c nx) {id : Nat} (hl : c.live id) : (c.loc id).1 < c.w.heap.size := by
  obtain ⟨b, hb, hne⟩ := hl
  have key : ∀ o, c.w.heap[(c.loc id).1]? = some o → (c.loc id).1 < c.w.heap.size := fun o ho => (Array.getElem?_eq_some_iff.1 ho).1
  cases b with
  | cells cs ro => obtain ⟨_, vs, ty, hh, _⟩ := h.cells id cs ro hb; exact key _ hh
  | map es => obtain ⟨_, ms, cl, hh, _⟩ := h.maps id es hb; exact key _ hh
  | tok l =>
    cases l with
    | true => obtain ⟨_, vs, ty, hh⟩ := h.toks id hb; exact key _ hh
    | false => exact absurd rfl hne
theorem Ok.base_le {c : Cx} {nx : Nat} (h : Ok c nx) {id : Nat} (hl : c.live id) : c.base ≤ (c.loc id).1 := by
  obtain ⟨b, hb, hne⟩ := hl
  cases b with
  | cells cs ro => exact (h.cells id cs ro hb).1
  | map es => exact (h.maps id es hb).1
  | tok l =>
    cases l with
    | true => exact (h.toks id hb).1
    | false => exact absurd rfl hne

/-! ### a draw -/
def Cx.drew (c : Cx) : Cx := { c with w := c.w.drew }
theorem Evo.drew (c : Cx) : Evo c c.drew := ⟨rfl, rfl, rfl, (Below.refl _ _).drew, fun _ h => ⟨h, fun _ h => h⟩, fun _ h => ⟨h, rfl⟩, fun _ _ h => ⟨h, fun vs _ h => ⟨vs, h, rfl⟩⟩⟩
theorem Ok.drew {c : Cx} {nx : Nat} (h : Ok c nx) : Ok c.drew nx where
  basele := h.basele
  cells := fun id cs ro hh => by
    obtain ⟨h1, vs, ty, h2, h3, h4⟩ := h.cells id cs ro hh
    exact ⟨h1, vs, ty, h2, h3.evo (Evo.drew c), h4⟩
  maps := fun id es hh => by
    obtain ⟨h1, ms, cl, h2, h3, h4⟩ := h.maps id es hh
    exact ⟨h1, ms, cl, h2, h3, fun j k v en hx hv => ⟨(h4 j k v en hx hv).1, (h4 j k v en hx hv).2.evo (Evo.drew c)⟩⟩
  toks := h.toks
  inj := h.inj
  fresh := h.fresh

/-! ### a new block -/
def Cx.alloc (c : Cx) (id : Nat) (o : Obj) (lo : Nat) (b : Blk) : Cx := { c with w := c.w.alloc o, loc := upd c.loc id (c.w.heap.size, lo), hp := upd c.hp id (some b) }
theorem cell_new {w : World} {o : Obj} {ad : Addr} (h : ad.block < w.heap.size) : (w.alloc o).cell? ad = w.cell? ad := World.cell?_alloc_lt w o ad h
theorem heap_new {w : World} {o : Obj} {k : Nat} (h : k < w.heap.size) : (w.alloc o).heap[k]? = w.heap[k]? := Below.heap_alloc w o k h
theorem heap_last (w : World) (o : Obj) : (w.alloc o).heap[w.heap.size]? = some o := by show (w.heap.push o)[_]? = _; simp

theorem Evo.alloc {c : Cx} {nx : Nat} (K : Ok c nx) {id : Nat} (hid : c.hp id = none) (o : Obj) (lo : Nat) (b : Blk) : Evo c (c.alloc id o lo b) where
  num := rfl
  base := rfl
  J := rfl
  below := (Below.refl _ _).alloc K.basele o
  imm := fun ad hI => by
    have hlt : ad.block < c.w.heap.size := by
      rcases hI with ⟨h1, _⟩ | ⟨_, h2, _⟩
      · have := K.basele; omega
      · exact h2
    refine ⟨?_, fun v hv => by rw [← hv]; exact cell_new hlt⟩
    rcases hI with h1 | ⟨h1, h2, h3⟩
    · exact .inl h1
    · refine .inr ⟨h1, by show _ < (c.w.alloc o).heap.size; simp; omega, fun hw => h3 ?_⟩
      rcases hw with ⟨i, cs, hi, hb⟩ | ⟨i, hi, hb, hlo⟩
      · by_cases he : i = id
        · subst he; simp [Cx.alloc, upd] at hb; omega
        · simp [Cx.alloc, upd, he] at hi hb; exact .inl ⟨i, cs, hi, hb⟩
      · by_cases he : i = id
        · subst he; simp [Cx.alloc, upd] at hb; omega
        · simp [Cx.alloc, upd, he] at hi hb hlo; exact .inr ⟨i, hi, hb, hlo⟩
  ids := fun i hi => by
    have he : i ≠ id := fun he => by rw [he, hid] at hi; cases hi
    simp [Cx.alloc, upd, he]; exact Option.isSome_iff_exists.1 hi |>.elim fun b hb => by simp [hb]
  tok := fun i hi ht => by
    have he : i ≠ id := fun he => by rw [he, hid] at hi; cases hi
    simp [Cx.alloc, upd, he] at ht
    refine ⟨ht, fun vs ty hv => ⟨vs, ?_, rfl⟩⟩
    show (c.w.alloc o).heap[_]? = _
    rw [heap_new (Array.getElem?_eq_some_iff.1 hv).1]
    exact hv

theorem live_alloc {c : Cx} {id i : Nat} {o : Obj} {lo : Nat} {b : Blk} (he : i ≠ id) : (c.alloc id o lo b).live i ↔ c.live i := by
  simp [Cx.live, Cx.alloc, upd, he]
theorem loc_alloc {c : Cx} {id i : Nat} {o : Obj} {lo : Nat} {b : Blk} (he : i ≠ id) : (c.alloc id o lo b).loc i = c.loc i := by
  simp [Cx.alloc, upd, he]
theorem loc_alloc_same {c : Cx} {id : Nat} {o : Obj} {lo : Nat} {b : Blk} : (c.alloc id o lo b).loc id = (c.w.heap.size, lo) := by
  simp [Cx.alloc, upd]
theorem hp_alloc {c : Cx} {id i : Nat} {o : Obj} {lo : Nat} {b : Blk} (he : i ≠ id) : (c.alloc id o lo b).hp i = c.hp i := by
  simp [Cx.alloc, upd, he]
theorem hp_alloc_same {c : Cx} {id : Nat} {o : Obj} {lo : Nat} {b : Blk} : (c.alloc id o lo b).hp id = some b := by
  simp [Cx.alloc, upd]

/-- What is asked of the new block itself. -/
def NewOk (c : Cx) (o : Obj) : Blk → Prop
  | .cells cs _ => ∃ (vs : List Value) (ty : TypeId), o = .cells vs.toArray ty (0, 0) ∧ Reps c true cs vs ∧ cs.all Ab.one = true
  | .map es => es = [] ∧ ∃ cl, o = .map #[] cl
  | .tok l => l = true ∧ ∃ (vs : Array Value) (ty : TypeId), o = .cells vs ty (0, 0)

theorem Ok.alloc {c : Cx} {nx : Nat} (K : Ok c nx) {id : Nat} (hid : c.hp id = none) (hlt : id < nx) {o : Obj} {lo : Nat} {b : Blk} (hn : NewOk c o b) : Ok (c.alloc id o lo b) nx := by
  have E := Evo.alloc K hid o lo b
  have old : ∀ i, c.live i → i ≠ id := fun i ⟨b, hb, _⟩ he => by rw [he, hid] at hb; cases hb
  refine ⟨?_, ?_, ?_, ?_, ?_, ?_⟩
  · show c.base ≤ (c.w.alloc o).heap.size
    have := K.basele
    simp; omega
  · intro i cs ro hi
    by_cases he : i = id
    · subst he
      rw [hp_alloc_same] at hi
      cases hi
      obtain ⟨vs, ty, ho, hr, h1⟩ := hn
      rw [loc_alloc_same]
      exact ⟨K.basele, vs, ty, by rw [← ho]; exact heap_last _ _, hr.evo E, h1⟩
    · rw [hp_alloc he] at hi
      obtain ⟨h1, vs, ty, h2, h3, h4⟩ := K.cells i cs ro hi
      rw [loc_alloc he]
      exact ⟨h1, vs, ty, by show (c.w.alloc o).heap[_]? = _; rw [heap_new (Array.getElem?_eq_some_iff.1 h2).1]; exact h2, h3.evo E, h4⟩
  · intro i es hi
    by_cases he : i = id
    · subst he
      rw [hp_alloc_same] at hi
      cases hi
      obtain ⟨rfl, cl, ho⟩ := hn
      rw [loc_alloc_same]
      exact ⟨K.basele, [], cl, by rw [show ([] : List MapEntry).toArray = #[] from rfl, ← ho]; exact heap_last _ _, rfl, fun j k v en hx => by simp at hx⟩
    · rw [hp_alloc he] at hi
      obtain ⟨h1, ms, cl, h2, h3, h4⟩ := K.maps i es hi
      rw [loc_alloc he]
      exact ⟨h1, ms, cl, by show (c.w.alloc o).heap[_]? = _; rw [heap_new (Array.getElem?_eq_some_iff.1 h2).1]; exact h2, h3, fun j k v en hx hv => ⟨(h4 j k v en hx hv).1, (h4 j k v en hx hv).2.evo E⟩⟩
  · intro i hi
    by_cases he : i = id
    · subst he
      rw [hp_alloc_same] at hi
      cases hi
      obtain ⟨_, vs, ty, ho⟩ := hn
      rw [loc_alloc_same]
      exact ⟨K.basele, vs, ty, by rw [← ho]; exact heap_last _ _⟩
    · rw [hp_alloc he] at hi
      obtain ⟨h1, vs, ty, h2⟩ := K.toks i hi
      rw [loc_alloc he]
      exact ⟨h1, vs, ty, by show (c.w.alloc o).heap[_]? = _; rw [heap_new (Array.getElem?_eq_some_iff.1 h2).1]; exact h2⟩
  · intro i j hij hi hj
    by_cases hei : i = id
    · have hej : j ≠ id := fun h => hij (hei.trans h.symm)
      subst hei
      rw [loc_alloc_same, loc_alloc hej]
      have := K.lt ((live_alloc hej).1 hj)
      show c.w.heap.size ≠ _
      omega
    · by_cases hej : j = id
      · subst hej
        rw [loc_alloc_same, loc_alloc hei]
        have := K.lt ((live_alloc hei).1 hi)
        show _ ≠ c.w.heap.size
        omega
      · rw [loc_alloc hei, loc_alloc hej]
        exact K.inj i j hij ((live_alloc hei).1 hi) ((live_alloc hej).1 hj)
  · intro i hi
    have he : i ≠ id := by omega
    rw [hp_alloc he]
    exact K.fresh i hi
end Go.Ab
