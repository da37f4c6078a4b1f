/- The row's frame: arguments as trees, the call. -/
import Derived.Test.YtfhinaopoffcnaaAbAdq
import Derived.Test.YtfhinaopoffcnaaAbRead
import Derived.Test.YtfhinaopoffcnaaAbW
set_option linter.unusedVariables false
set_option linter.unusedSimpArgs false
namespace Go.Ab
open Go.RowKit
def c0 (num : Nat → Nat) (w : World) : Cx := ⟨num, w.heap.size, fun _ => True, w, fun _ => (0, 0), fun _ => none⟩
theorem row_calls {P : Program} {num : Nat → Nat} {F : Funs} (hT : Table P num F) (hm : P.follows .mixedOrders = true) {f : Nat} {as : List AV} {b : Bool} (h : pureS F f as = some (.b b)) {w : World} {vargs : List Value} (hr : Reps (c0 num w) true as vargs) :
    Calls P (num f) vargs.toArray w (fun e w' => e = .returned (.bool b) ∧ Below w.heap.size w w') := by
  obtain ⟨k, g', hk⟩ := pureS_bool h
  have K : Ok (c0 num w) 0 := {
    basele := Nat.le_refl _
    cells := fun _ _ _ h => by cases h
    maps := fun _ _ h => by cases h
    toks := fun _ h => by cases h
    inj := fun _ _ _ h => by obtain ⟨_, h, _⟩ := h; cases h
    fresh := fun _ _ => rfl }
  have := ((callE_ok hT hm k).2 f as g0 _ _ hk).2 (c0 num w) vargs rfl rfl K hr
  refine Calls.mono this.1 fun e w' ⟨val, c', h1, h2, E, _, _, hrep⟩ => ?_
  cases hrep
  exact ⟨h1, h2 ▸ E.below⟩

def intsC (l : List Int) : List AV := l.map fun v => .i .i64 v
def pairsC (l : List (Int × Int)) : List AV := l.flatMap fun p => [.i .i64 p.1, .i .i64 p.2]
theorem sh_ints {P : Program} {t e : TypeId} {x : AV} (ht : P.underlying t = some (.slice e)) (he : P.underlying e = some (.int .i64)) (h : Sh P 2 t [x]) :
    ∃ l : List Int, x = .sl (intsC l) l.length .non ∧ l.length ≤ maxLen ∧ ∀ n ∈ l, (Lit.int .i64 n).wf = true := by
  simp only [Sh, ht, he] at h
  obtain ⟨cs, n, hx, hn, rows, hl, rfl, hS⟩ := h
  cases hx
  have key : ∀ rows : List (List AV), (∀ r ∈ rows, ∃ n, r = [AV.i .i64 n] ∧ (Lit.int .i64 n).wf = true) → ∃ l : List Int, rows.flatten = intsC l ∧ l.length = rows.length ∧ ∀ n ∈ l, (Lit.int .i64 n).wf = true := by
    intro rows
    induction rows with
    | nil => intro _; exact ⟨[], rfl, rfl, fun _ h => by cases h⟩
    | cons r rows ih =>
      intro h
      obtain ⟨n, rfl, hn⟩ := h r (List.mem_cons_self ..)
      obtain ⟨l, h1, h2, h3⟩ := ih fun r hr => h r (List.mem_cons_of_mem _ hr)
      refine ⟨n :: l, by rw [List.flatten_cons, h1]; rfl, by simp [h2], fun m hm => ?_⟩
      rcases List.mem_cons.1 hm with rfl | hm
      · exact hn
      · exact h3 m hm
  obtain ⟨l, h1, h2, h3⟩ := key rows hS
  exact ⟨l, by rw [h1, ← hl, h2], by omega, h3⟩
theorem sh_pairs {P : Program} {t e i : TypeId} {x : AV} {fs : Array Field} (ht : P.underlying t = some (.slice e)) (he : P.underlying e = some (.struct fs)) (hf : fs.toList.map (·.type) = [i, i]) (hi : P.underlying i = some (.int .i64)) (h : Sh P 3 t [x]) :
    ∃ l : List (Int × Int), x = .sl (pairsC l) l.length .non ∧ l.length ≤ maxLen ∧ ∀ p ∈ l, (Lit.int .i64 p.1).wf = true ∧ (Lit.int .i64 p.2).wf = true := by
  simp only [Sh, ht, he, hf, ShL, hi] at h
  obtain ⟨cs, n, hx, hn, rows, hl, rfl, hS⟩ := h
  cases hx
  have key : ∀ rows : List (List AV), (∀ r ∈ rows, ∃ p : Int × Int, r = [AV.i .i64 p.1, .i .i64 p.2] ∧ (Lit.int .i64 p.1).wf = true ∧ (Lit.int .i64 p.2).wf = true) → ∃ l : List (Int × Int), rows.flatten = pairsC l ∧ l.length = rows.length ∧ ∀ p ∈ l, (Lit.int .i64 p.1).wf = true ∧ (Lit.int .i64 p.2).wf = true := by
    intro rows
    induction rows with
    | nil => intro _; exact ⟨[], rfl, rfl, fun _ h => by cases h⟩
    | cons r rows ih =>
      intro h
      obtain ⟨p, rfl, hn⟩ := h r (List.mem_cons_self ..)
      obtain ⟨l, h1, h2, h3⟩ := ih fun r hr => h r (List.mem_cons_of_mem _ hr)
      refine ⟨p :: l, by rw [List.flatten_cons, h1]; rfl, by simp [h2], fun m hm => ?_⟩
      rcases List.mem_cons.1 hm with rfl | hm
      · exact hn
      · exact h3 m hm
  obtain ⟨l, h1, h2, h3⟩ := key rows fun r hr => by
    obtain ⟨a, b, rfl, ⟨n, rfl, hn⟩, c, d, rfl, ⟨k, rfl, hk⟩, rfl⟩ := hS r hr
    exact ⟨(n, k), rfl, hn, hk⟩
  exact ⟨l, by rw [h1, ← hl, h2], by omega, h3⟩
end Go.Ab
