/- What comes in, as trees: any value of a plain type that the row's reader reads. -/
import Derived.Test.YtfhinaopoffcnaaAbRep
import Derived.OpenShut
import Derived.ChangeArms
import Derived.Laws.Rows
set_option linter.unusedVariables false
set_option linter.unusedSimpArgs false
namespace Go.Ab
open Go.RowKit

def ShR (S : List AV → Prop) (n : Nat) (as : List AV) : Prop := ∃ rows : List (List AV), rows.length = n ∧ as = rows.flatten ∧ ∀ r ∈ rows, S r
def ShL (S : TypeId → List AV → Prop) : List TypeId → List AV → Prop
  | [], as => as = []
  | t :: ts, as => ∃ a b, as = a ++ b ∧ S t a ∧ ShL S ts b
/-- The make of the cells of a value of a type. -/
def Sh (P : Program) : Nat → TypeId → List AV → Prop
  | 0, _, _ => False
  | m + 1, t, as => match P.underlying t with
    | some .bool => ∃ b, as = [.b b]
    | some (.int k) => ∃ n, as = [.i k n] ∧ (Lit.int k n).wf = true
    | some .string => ∃ s, as = [.s s] ∧ s.size ≤ maxLen
    | some (.slice e) => ∃ cs n, as = [.sl cs n .non] ∧ n ≤ maxLen ∧ ShR (Sh P m e) n cs
    | some (.pointer e) => as = [.nilp] ∨ ∃ cs, as = [.ptr cs] ∧ Sh P m e cs
    | some (.struct fs) => ShL (Sh P m) (fs.toList.map (·.type)) as
    | some (.array n e) => ShR (Sh P m e) n as
    | _ => False
def fieldsOk (P : Program) : Nat → List Field → Nat → Bool
  | o, [], n => o == n
  | o, f :: fs, n => (f.offset == o) && fieldsOk P (o + P.cellsOf f.type) fs n
def plainB (P : Program) : Nat → TypeId → Bool
  | 0, _ => false
  | m + 1, t => match P.underlying t with
    | some .bool | some (.int _) | some .string => true
    | some (.slice e) => plainB P m e
    | some (.pointer e) => plainB P m e
    | some (.struct fs) => fieldsOk P 0 fs.toList (P.cellsOf t) && fs.toList.all (fun f => plainB P m f.type)
    | some (.array n e) => (P.cellsOf t == n * P.cellsOf e) && plainB P m e
    | _ => false

section
variable {H : Type} {enc : TypeId × Value → H} {P : Program} {c : Cx}
theorem add_add' (a : Addr) (m n : Nat) : (a.add m).add n = a.add (m + n) := by
  unfold Addr.add
  by_cases hm : m = 0 <;> by_cases hn : n = 0 <;> simp [hm, hn, Nat.add_assoc]
theorem I_cell (hb : c.base = c.w.heap.size) (hJ : c.J = fun _ => True) {a : Addr} {v : Value} (h : c.w.cell? a = some v) : c.I a := .inl ⟨by rw [hb]; exact block_lt_of_cell h, by rw [hJ]; trivial⟩
/-- The cells of a row of 'n' of one type. -/
theorem read_rows {S : List AV → Prop} {sz : Nat} {a : Addr} {n : Nat}
    (h : ∀ i, i < n → ∃ row rs, c.w.cells? 0 (a.add (i * sz)) sz = some row ∧ S rs ∧ Reps c false rs row ∧ ∀ v ∈ row, v.oneCell' = true) :
    ∃ cs vs, ShR S n cs ∧ Reps c false cs vs ∧ vs.length = n * sz ∧ (∀ v ∈ vs, v.oneCell' = true) ∧ ∀ j, j < n * sz → c.w.cell? (a.add j) = vs[j]? := by
  induction n with
  | zero => exact ⟨[], [], ⟨[], rfl, rfl, fun _ h => by cases h⟩, Reps.nil, by simp, (fun v (h : v ∈ ([] : List Value)) => by cases h), fun j hj => by omega⟩
  | succ n ih =>
    obtain ⟨cs, vs, ⟨rows, hl, rfl, hS⟩, hR, hlen, h1, hcell⟩ := ih fun i hi => h i (by omega)
    obtain ⟨row, rs, hc, hSr, hRr, h1r⟩ := h n (by omega)
    obtain ⟨_, hrl, hrc⟩ := World.cells?_some hc
    refine ⟨_, vs ++ row, ⟨rows ++ [rs], by simp [hl], rfl, ?_⟩, ?_, ?_, ?_, ?_⟩
    · intro r hr
      rcases List.mem_append.1 hr with hr | hr
      · exact hS r hr
      · rw [List.mem_singleton.1 hr]; exact hSr
    · simp only [List.flatten_append, List.flatten_cons, List.flatten_nil, List.append_nil]
      exact hR.append hRr
    · rw [List.length_append, hlen, hrl, Nat.succ_mul]
    · intro v hv
      rcases List.mem_append.1 hv with hv | hv
      · exact h1 v hv
      · exact h1r v hv
    · intro j hj
      rw [Nat.succ_mul] at hj
      by_cases hjn : j < n * sz
      · rw [List.getElem?_append_left (by omega)]; exact hcell j hjn
      · rw [List.getElem?_append_right (by omega), hlen, ← hrc (j - n * sz) (by omega), add_add']
        rw [show n * sz + (j - n * sz) = j by omega]

theorem read_cells (hb : c.base = c.w.heap.size) (hJ : c.J = fun _ => True) : ∀ (m : Nat) {t : TypeId} {fuel : Nat} {cs : List Value} {x : DataW H × List MemPlace},
    plainB P m t = true → DataW.trod enc P c.w 0 (fun _ => true) true fuel t cs = some x → ∃ as, Sh P m t as ∧ Reps c false as cs ∧ ∀ v ∈ cs, v.oneCell' = true
  | 0, _, _, _, _, h, _ => by simp [plainB] at h
  | m + 1, t, fuel, cs, x, hp, h => by
    have one : ∀ {y : AV} {v : Value}, Rep c false y v → v.oneCell' = true → Reps c false [y] [v] ∧ ∀ u ∈ [v], u.oneCell' = true := fun hr h1 =>
      ⟨Reps.cons hr Reps.nil, fun u hu => by rw [List.mem_singleton.1 hu]; exact h1⟩
    simp only [plainB] at hp
    cases ht : P.underlying t with
    | none => rw [ht] at hp; cases hp
    | some d =>
      rw [ht] at hp
      cases d with
      | bool =>
        obtain ⟨b, rfl, _⟩ := DataW.trod_bool ht h
        exact ⟨[.b b], by simp only [Sh, ht]; exact ⟨b, rfl⟩, one (.b b) rfl⟩
      | int k =>
        obtain ⟨n, rfl, _, hw⟩ := DataW.trod_int ht h
        exact ⟨[.i k n], by simp only [Sh, ht]; exact ⟨n, rfl, hw⟩, one (.i k n) rfl⟩
      | string =>
        obtain ⟨s, rfl, _, hs⟩ := DataW.trod_string ht h
        exact ⟨[.s s], by simp only [Sh, ht]; exact ⟨s, rfl, hs⟩, one (.s s) rfl⟩
      | slice e =>
        rcases DataW.trod_slice ht h with ⟨rfl, _⟩ | ⟨a, len, cap, elems, rest, n, rfl, rfl, _, _, hl, hm, hel, hget, _, _⟩
        · refine ⟨[.sl [] 0 .non], by simp only [Sh, ht]; exact ⟨[], 0, rfl, Nat.zero_le _, [], rfl, rfl, fun _ h => by cases h⟩, one ?_ rfl⟩
          exact .sl ⟨0, 0, none⟩ [] (Nat.le_refl _) (Nat.zero_le _) (fun h => by cases h) (fun _ _ _ h => by cases h) (fun h => by omega) (fun _ h => by cases h) rfl (fun h => absurd rfl h) (fun j v h => by simp at h) (fun j x v h => by simp at h) (fun _ _ h => by cases h)
        · obtain ⟨as, vs, hS, hR, hlen, h1, hcell⟩ := read_rows (c := c) (S := Sh P m e) (sz := P.cellsOf e) (a := a) (n := len) fun i hi => by
            have hg := hget i hi
            cases hc : c.w.cells? 0 (a.add (i * P.cellsOf e)) (P.cellsOf e) with
            | none => rw [hc] at hg; simp at hg; omega
            | some row =>
              rw [hc, Option.bind_some, List.getElem?_eq_getElem (by omega)] at hg
              obtain ⟨rs, h1, h2, h3⟩ := read_cells hb hJ m hp hg
              exact ⟨row, rs, rfl, h1, h2, h3⟩
          have hk : ∀ (j : Nat) v, vs[j]? = some v → c.I (a.add j) ∧ c.w.cell? (a.add j) = some v := fun j v hv => by
            have hj : j < len * P.cellsOf e := by rw [← hlen]; exact (List.getElem?_eq_some_iff.1 hv).1
            have := (hcell j hj).trans hv
            exact ⟨I_cell hb hJ this, this⟩
          refine ⟨[.sl as len .non], by simp only [Sh, ht]; exact ⟨as, len, rfl, by omega, hS⟩, one ?_ rfl⟩
          exact .sl a vs hl hm (fun h => by cases h) (fun _ _ _ h => by cases h) (fun _ => rfl) h1 hR.1 (fun _ => rfl) hk (fun j x v hx hv => hR.2 j x v hx hv) (fun _ _ h => by cases h)
      | pointer e =>
        rcases DataW.trod_pointer ht h with ⟨rfl, _⟩ | ⟨a, cs', y, n, rfl, rfl, _, hc, hd⟩
        · exact ⟨[.nilp], by simp only [Sh, ht]; exact .inl trivial, one .nilp rfl⟩
        · obtain ⟨rs, h1, h2, h3⟩ := read_cells hb hJ m hp hd
          obtain ⟨_, hl, hcell⟩ := World.cells?_some hc
          have hk : ∀ (j : Nat) v, cs'[j]? = some v → c.I (a.add j) ∧ c.w.cell? (a.add j) = some v := fun j v hv => by
            have hj : j < P.cellsOf e := by rw [← hl]; exact (List.getElem?_eq_some_iff.1 hv).1
            have := (hcell j hj).trans hv
            exact ⟨I_cell hb hJ this, this⟩
          exact ⟨[.ptr rs], by simp only [Sh, ht]; exact .inr ⟨rs, rfl, h1⟩, one (.ptr a cs' h3 h2.1 hk (fun j x v hx hv => h2.2 j x v hx hv)) rfl⟩
      | struct fs =>
        simp only [Bool.and_eq_true, List.all_eq_true] at hp
        obtain ⟨xs, n, rfl, _, hcl, hxl, hget⟩ := DataW.trod_struct ht h
        have key : ∀ (l : List Field) (o : Nat) (i : Nat), fieldsOk P o l (P.cellsOf t) = true → o ≤ cs.length → (∀ f ∈ l, plainB P m f.type = true) → (∀ j f, l[j]? = some f → DataW.trod enc P c.w 0 (fun _ => true) true n f.type ((cs.drop f.offset).take (P.cellsOf f.type)) = xs[i + j]?) → i + l.length = xs.length →
            ∃ as, ShL (Sh P m) (l.map (·.type)) as ∧ Reps c false as (cs.drop o) ∧ ∀ v ∈ cs.drop o, v.oneCell' = true := by
          intro l
          induction l with
          | nil =>
            intro o i hf ho _ _ _
            simp only [fieldsOk, beq_iff_eq] at hf
            have : cs.drop o = [] := List.drop_eq_nil_of_le (by omega)
            rw [this]
            exact ⟨[], rfl, Reps.nil, fun _ h => by cases h⟩
          | cons f l ih =>
            intro o i hf ho hpl hg hlen
            simp only [fieldsOk, Bool.and_eq_true, beq_iff_eq] at hf
            obtain ⟨hfo, hf⟩ := hf
            have hg0 := hg 0 f rfl
            simp only [List.length_cons] at hlen
            rw [List.getElem?_eq_getElem (by omega), hfo] at hg0
            obtain ⟨rs, h1, h2, h3⟩ := read_cells hb hJ m (hpl f (List.mem_cons_self ..)) hg0
            have mono : ∀ (l : List Field) (o : Nat), fieldsOk P o l (P.cellsOf t) = true → o ≤ P.cellsOf t := by
              intro l
              induction l with
              | nil => intro o h; simp only [fieldsOk, beq_iff_eq] at h; omega
              | cons f l ih => intro o h; simp only [fieldsOk, Bool.and_eq_true] at h; have := ih _ h.2; omega
            have ho2 := mono _ _ hf
            obtain ⟨as, h4, h5, h6⟩ := ih (o + P.cellsOf f.type) (i + 1) hf (by omega) (fun g hg => hpl g (List.mem_cons_of_mem _ hg)) (fun j g hj => by
              have := hg (j + 1) g (by simpa using hj)
              rwa [show i + (j + 1) = i + 1 + j by omega] at this) (by omega)
            have hsplit : cs.drop o = (cs.drop o).take (P.cellsOf f.type) ++ cs.drop (o + P.cellsOf f.type) := by
              rw [← List.drop_drop, List.take_append_drop]
            rw [hsplit]
            refine ⟨rs ++ as, ⟨rs, as, rfl, h1, h4⟩, h2.append h5, fun v hv => ?_⟩
            rcases List.mem_append.1 hv with hv | hv
            · exact h3 v hv
            · exact h6 v hv
        obtain ⟨as, h1, h2, h3⟩ := key fs.toList 0 0 hp.1 (Nat.zero_le _) hp.2 (fun j f hj => by
          have := hget j f (by simpa using hj)
          rwa [show 0 + j = j by omega]) (by simp [hxl])
        exact ⟨as, by simp only [Sh, ht]; exact h1, by simpa using h2, by simpa using h3⟩
      | array n e =>
        simp only [Bool.and_eq_true, beq_iff_eq] at hp
        obtain ⟨xs, q, rfl, _, hcl, hxl, hget⟩ := DataW.trod_array ht h
        have key : ∀ i, i ≤ n → ∃ as, ShR (Sh P m e) i as ∧ Reps c false as (cs.take (i * P.cellsOf e)) ∧ ∀ v ∈ cs.take (i * P.cellsOf e), v.oneCell' = true := by
          intro i
          induction i with
          | zero => intro _; exact ⟨[], ⟨[], rfl, rfl, fun _ h => by cases h⟩, by simpa using Reps.nil, by simp⟩
          | succ i ih =>
            intro hi
            obtain ⟨as, ⟨rows, hl, rfl, hS⟩, h2, h3⟩ := ih (by omega)
            have hg := hget i (by omega)
            rw [List.getElem?_eq_getElem (by omega)] at hg
            obtain ⟨rs, h4, h5, h6⟩ := read_cells hb hJ m hp.2 hg
            have hsplit : cs.take ((i + 1) * P.cellsOf e) = cs.take (i * P.cellsOf e) ++ (cs.drop (i * P.cellsOf e)).take (P.cellsOf e) := by
              rw [Nat.succ_mul, List.take_add]
            rw [hsplit]
            refine ⟨_, ⟨rows ++ [rs], by simp [hl], rfl, fun r hr => ?_⟩, ?_, fun v hv => ?_⟩
            · rcases List.mem_append.1 hr with hr | hr
              · exact hS r hr
              · rw [List.mem_singleton.1 hr]; exact h4
            · simp only [List.flatten_append, List.flatten_cons, List.flatten_nil, List.append_nil]
              exact h2.append h5
            · rcases List.mem_append.1 hv with hv | hv
              · exact h3 v hv
              · exact h6 v hv
        obtain ⟨as, h1, h2, h3⟩ := key n (Nat.le_refl _)
        have hall : cs.take (n * P.cellsOf e) = cs := List.take_of_length_le (by omega)
        rw [hall] at h2 h3
        exact ⟨as, by simp only [Sh, ht]; exact h1, h2, h3⟩
      | _ => cases hp

/-- An argument of one cell. -/
theorem read_one (hb : c.base = c.w.heap.size) (hJ : c.J = fun _ => True) (m : Nat) {t : TypeId} {v : Value} {d : DataW H} {ps : List MemPlace} (hp : plainB P m t = true) (hv : v.cells = #[v]) (h : DataW.Trod enc P c.w 0 (fun _ => true) true t v d ps) :
    ∃ x, Sh P m t [x] ∧ Rep c true x v := by
  obtain ⟨fuel, hf⟩ := h
  rw [hv] at hf
  obtain ⟨as, h1, h2, _⟩ := read_cells hb hJ m hp hf
  have hl : as.length = 1 := by simpa using h2.1
  match as, hl with
  | [x], _ => exact ⟨x, h1, (h2.2 0 x v rfl rfl).up⟩
end
end Go.Ab
