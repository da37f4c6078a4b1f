/- What ImmAny rests on, part 4: lemmas, no claim of its own. -/
import Derived.Test.YtkiecemdbkjccaaGreatPImmAny3
section
set_option linter.unusedVariables false
set_option linter.unusedSimpArgs false
namespace Go.Ab
variable {F : Funs}
def RfOk (X : Gr) (i : Nat) : Prop := ((X.evs.getD i ev0).kd ≠ 1 → X.rf.getD i 0 = -1) ∧
  ((X.evs.getD i ev0).kd = 1 → 0 ≤ X.rf.getD i 0 ∧ X.rf.getD i 0 < X.evs.length ∧ (X.evs.getD (X.rf.getD i 0).toNat ev0).kd = 2 ∧ (X.evs.getD (X.rf.getD i 0).toNat ev0).lc = (X.evs.getD i ev0).lc ∧ (X.evs.getD (X.rf.getD i 0).toNat ev0).vl = (X.evs.getD i ev0).vl)
set_option maxRecDepth 100000 in
set_option maxHeartbeats 4000000 in
theorem sp_rfC (h64 : F 64 = some A_xref06_rf) {X : Gr} {i : Nat} (hi : i < X.evs.length) (hr : i < X.rf.length) : ∃ b, pureS F 64 [.agg (grC X), .i .i64 i] = some (.b b) ∧ (b = true → RfOk X i) := by
  refine pureB_of h64 ?_
  have hp := ev_part hi
  have hq := ints_part hr
  have hx := fun h => ev_part (l := X.evs) (k := (X.rf.getD i 0).toNat) h
  have fin : ∀ P : Prop, (RfOk X i → P) → (((X.evs.getD i ev0).kd ≠ 1 → X.rf.getD i 0 = -1) ∧ ((X.evs.getD i ev0).kd = 1 → 0 ≤ X.rf.getD i 0 ∧ X.rf.getD i 0 < X.evs.length ∧ (X.evs.getD (X.rf.getD i 0).toNat ev0).kd = 2 ∧ (X.evs.getD (X.rf.getD i 0).toNat ev0).lc = (X.evs.getD i ev0).lc ∧ (X.evs.getD (X.rf.getD i 0).toNat ev0).vl = (X.evs.getD i ev0).vl)) → P := fun P h h' => h h'
  have fin := fin _ id
  generalize RfOk X i = P at fin
  generalize X.evs.getD i ev0 = ev at hp fin
  generalize X.rf.getD i 0 = w at hq hx fin
  generalize X.evs.getD w.toNat ev0 = xv at hx fin
  obtain ⟨th, kd, md, lc, vl, ex⟩ := ev
  obtain ⟨th', kd', md', lc', vl', ex'⟩ := xv
  have s6 : ∀ b1 b2 b3 b4 b5 b6 c1 c2 c3 c4 c5 c6 : AV, splice [b1, b2, b3, b4, b5, b6] 0 [c1, c2, c3, c4, c5, c6] = [c1, c2, c3, c4, c5, c6] := fun _ _ _ _ _ _ _ _ _ _ _ _ => rfl
  simp only at fin
  cases c1 : (kd != 1)
  case true =>
    simp (disch := omega) only [A_xref06_rf, wp, Nat.reduceAdd, Nat.reduceMul, Nat.reduceSub, gl, hp, hq, c1]
    exact ⟨_, rfl, fun h => fin ⟨fun _ => by simpa using h, fun h' => by simp [h'] at c1⟩⟩
  have hk : kd = 1 := by simpa using c1
  by_cases w0 : w < 0
  case pos =>
    simp (disch := omega) only [A_xref06_rf, wp, Nat.reduceAdd, Nat.reduceMul, Nat.reduceSub, gl, hp, hq, c1, w0]
    exact ⟨_, rfl, fun h => by cases h⟩
  by_cases w1 : X.evs.length ≤ w
  case pos =>
    simp (disch := omega) only [A_xref06_rf, wp, Nat.reduceAdd, Nat.reduceMul, Nat.reduceSub, gl, hp, hq, c1, w0, w1]
    exact ⟨_, rfl, fun h => by cases h⟩
  have hx := hx (by omega)
  cases c2 : (kd' == 2)
  case false =>
    simp (disch := omega) only [A_xref06_rf, wp, Nat.reduceAdd, Nat.reduceMul, Nat.reduceSub, gl, hp, hq, c1, w0, w1, hx, c2]
    exact ⟨_, rfl, fun h => by cases h⟩
  cases c3 : (lc' == lc)
  case false =>
    simp (disch := omega) only [A_xref06_rf, wp, Nat.reduceAdd, Nat.reduceMul, Nat.reduceSub, gl, hp, hq, c1, w0, w1, hx, c2, c3]
    exact ⟨_, rfl, fun h => by cases h⟩
  simp (disch := omega) only [A_xref06_rf, wp, Nat.reduceAdd, Nat.reduceMul, Nat.reduceSub, gl, hp, hq, c1, w0, w1, hx, c2, c3]
  exact ⟨_, rfl, fun h => fin ⟨fun h' => absurd hk h', fun _ => ⟨by omega, by omega, by simpa using c2, by simpa using c3, by simpa using h⟩⟩⟩
def isWr (loc : Int) (e : Ev) : Bool := e.kd == 2 && e.lc == loc
def cntW (X : Gr) (loc : Int) (k : Nat) : Nat := ((X.evs.take k).filter (isWr loc)).length
theorem cntW_succ {X : Gr} {loc : Int} {k : Nat} (h : k < X.evs.length) : cntW X loc (k + 1) = if isWr loc (X.evs.getD k ev0) then cntW X loc k + 1 else cntW X loc k := by
  unfold cntW
  rw [List.take_add_one, List.filter_append, List.getElem?_eq_getElem h, List.getD_eq_getElem?_getD, List.getElem?_eq_getElem h, List.length_append]
  simp only [Option.toList, Option.getD_some, List.filter_cons, List.filter_nil]
  split <;> simp_all
theorem cntW_le (X : Gr) (loc : Int) (k : Nat) : cntW X loc k ≤ k := by
  unfold cntW
  have h1 := List.length_filter_le (isWr loc) (X.evs.take k)
  rw [List.length_take] at h1; omega
structure CoOk (X : Gr) (loc : Nat) : Prop where
  wr : ∀ i, i < (X.co.getD loc []).length → 0 ≤ (X.co.getD loc []).getD i 0 ∧ (X.co.getD loc []).getD i 0 < X.evs.length ∧ (X.evs.getD ((X.co.getD loc []).getD i 0).toNat ev0).kd = 2 ∧ (X.evs.getD ((X.co.getD loc []).getD i 0).toNat ev0).lc = loc
  ne : ∀ i, i < (X.co.getD loc []).length → ∀ k, k < i → (X.co.getD loc []).getD k 0 ≠ (X.co.getD loc []).getD i 0
  len : (X.co.getD loc []).length = cntW X loc X.evs.length
  pos : 0 < (X.co.getD loc []).length
  hd : (X.co.getD loc []).getD 0 0 = loc
set_option maxRecDepth 100000 in
set_option maxHeartbeats 4000000 in
theorem sp_coC (h65 : F 65 = some A_xref06_co) {X : Gr} {loc : Nat} (hl : loc < X.co.length) (hn : X.evs.length ≤ 100) (hc : (X.co.getD loc []).length ≤ 100) : ∃ b, pureS F 65 [.agg (grC X), .i .i64 loc] = some (.b b) ∧ (b = true → CoOk X loc) := by
  refine pureB_of h65 ?_
  have hp := co_part hl
  have fin : (∀ i, i < (X.co.getD loc []).length → 0 ≤ (X.co.getD loc []).getD i 0 ∧ (X.co.getD loc []).getD i 0 < X.evs.length ∧ (X.evs.getD ((X.co.getD loc []).getD i 0).toNat ev0).kd = 2 ∧ (X.evs.getD ((X.co.getD loc []).getD i 0).toNat ev0).lc = loc) → (∀ i, i < (X.co.getD loc []).length → ∀ k, k < i → (X.co.getD loc []).getD k 0 ≠ (X.co.getD loc []).getD i 0) → (X.co.getD loc []).length = cntW X loc X.evs.length → 0 < (X.co.getD loc []).length → (X.co.getD loc []).getD 0 0 = loc → CoOk X loc := fun a b c d e => ⟨a, b, c, d, e⟩
  generalize X.co.getD loc [] = l at hp fin hc
  simp (disch := omega) only [A_xref06_co, wp, Nat.reduceAdd, Nat.reduceMul, Nat.reduceSub, gl, hp]
  refine blk_cut (fun e g => e 1 = .i .i64 loc ∧ e 2 = .mp 0 0 ∧ e 5 = .sl (intsC l) l.length .non ∧ e 6 = .i .i64 (cntW X loc X.evs.length : Nat) ∧ g.hp 0 = some (.cells (grC X) false) ∧ 0 < g.nx) ?_ ?_
  · refine W_loop (fun q e g => ∃ k : Nat, q = X.evs.length - k ∧ k ≤ X.evs.length ∧ e 1 = .i .i64 loc ∧ e 2 = .mp 0 0 ∧ e 5 = .sl (intsC l) l.length .non ∧ e 6 = .i .i64 (cntW X loc k : Nat) ∧ e 7 = .i .i64 k ∧ g.hp 0 = some (.cells (grC X) false) ∧ 0 < g.nx) X.evs.length ?_ ?_
    · refine ⟨0, rfl, Nat.zero_le _, ?_⟩
      simp (disch := omega) only [wp, Nat.reduceAdd, Nat.reduceMul, Nat.reduceSub]
      exact ⟨rfl, rfl, by first | omega | (dsimp only; omega)⟩
    · rintro q e g ⟨k, rfl, hk, e1, e2, e5, e6, e7, hg, hnx⟩
      by_cases hk' : k < X.evs.length
      · have hk1 : (k : Int) < X.evs.length := by omega
        have hwk := succ_wrap (k := k) (by omega)
        have hkd := ev_kd_at hk'
        have hlc := ev_lc_at hk'
        have hdl : (List.drop (k * 6) (evsC X.evs)).length = X.evs.length * 6 - k * 6 := by rw [List.length_drop, evsC_len]
        have hs := cntW_succ (loc := loc) hk'
        have hle := cntW_le X loc k
        unfold isWr at hs
        generalize cntW X loc k = c at e6 hs hle
        have hwc := succ_wrap (k := c) (by omega)
        generalize X.evs.getD k ev0 = ev at hkd hlc hs
        cases c1 : (ev.kd == 2)
        case false =>
          rw [c1] at hs
          simp (disch := omega) only [wp, Nat.reduceAdd, Nat.reduceMul, Nat.reduceSub, gl, e1, e2, e5, e6, e7, hg, hk1, hkd, hlc, hdl, c1, hwk]
          refine ⟨X.evs.length - (k + 1), by omega, k + 1, rfl, by omega, by rw [hs]; rfl, rfl, by first | omega | (dsimp only; omega)⟩
        cases c2 : (ev.lc == (loc : Int))
        case false =>
          rw [c1, c2] at hs
          simp (disch := omega) only [wp, Nat.reduceAdd, Nat.reduceMul, Nat.reduceSub, gl, e1, e2, e5, e6, e7, hg, hk1, hkd, hlc, hdl, c1, c2, hwk]
          refine ⟨X.evs.length - (k + 1), by omega, k + 1, rfl, by omega, by rw [hs]; rfl, rfl, by first | omega | (dsimp only; omega)⟩
        rw [c1, c2] at hs
        simp (disch := omega) only [wp, Nat.reduceAdd, Nat.reduceMul, Nat.reduceSub, gl, e1, e2, e5, e6, e7, hg, hk1, hkd, hlc, hdl, c1, c2, hwk, hwc]
        refine ⟨X.evs.length - (k + 1), by omega, k + 1, rfl, by omega, by rw [hs]; rfl, rfl, by first | omega | (dsimp only; omega)⟩
      · obtain rfl : k = X.evs.length := by omega
        have hk1 : ¬ ((X.evs.length : Int) < X.evs.length) := by omega
        simp (disch := omega) only [wp, Nat.reduceAdd, Nat.reduceMul, Nat.reduceSub, gl, e1, e2, e5, e6, e7, hg, hk1]
        first | omega | (dsimp only; omega)
  · rintro e g ⟨e1, e2, e5, e6, hg, hnx⟩
    simp (disch := omega) only [wp, Nat.reduceAdd, Nat.reduceMul, Nat.reduceSub, e1, e2, e5, e6]
    have hcl := cntW_le X loc X.evs.length
    generalize cntW X loc X.evs.length = N at e6 fin hcl
    refine W_loop (fun q e g => ∃ i : Nat, q = l.length - i ∧ i ≤ l.length ∧ e 1 = .i .i64 loc ∧ e 2 = .mp 0 0 ∧ e 5 = .sl (intsC l) l.length .non ∧ e 6 = .i .i64 (N : Nat) ∧ e 8 = .i .i64 i ∧ g.hp 0 = some (.cells (grC X) false) ∧ 0 < g.nx ∧
      (∀ j, j < i → 0 ≤ l.getD j 0 ∧ l.getD j 0 < X.evs.length ∧ (X.evs.getD (l.getD j 0).toNat ev0).kd = 2 ∧ (X.evs.getD (l.getD j 0).toNat ev0).lc = loc) ∧ (∀ j, j < i → ∀ k, k < j → l.getD k 0 ≠ l.getD j 0)) l.length ?_ ?_
    · refine ⟨0, rfl, Nat.zero_le _, ?_⟩
      simp (disch := omega) only [wp, Nat.reduceAdd, Nat.reduceMul, Nat.reduceSub, e1, e2, e5, e6]
      exact ⟨rfl, hg, by first | omega | (dsimp only; omega), fun j hj => by omega, fun j hj => by omega⟩
    · rintro q e g ⟨i, rfl, hi, e1, e2, e5, e6, e8, hg, hnx, hall, hne⟩
      by_cases hi' : i < l.length
      · have hi1 : (i : Int) < l.length := by omega
        have hwi := succ_wrap (k := i) (by omega)
        have hip := ints_part hi'
        have hnew : ∀ x, l.getD i 0 = x → True := fun _ _ => trivial
        by_cases b1 : l.getD i 0 < 0
        case pos =>
          simp (disch := omega) only [wp, Nat.reduceAdd, Nat.reduceMul, Nat.reduceSub, gl, e1, e2, e5, e6, e8, hg, hi1, hip, b1]
          exact ⟨_, rfl, fun h => by cases h⟩
        by_cases b2 : (X.evs.length : Int) ≤ l.getD i 0
        case pos =>
          simp (disch := omega) only [wp, Nat.reduceAdd, Nat.reduceMul, Nat.reduceSub, gl, e1, e2, e5, e6, e8, hg, hi1, hip, b1, b2]
          exact ⟨_, rfl, fun h => by cases h⟩
        have hkd := ev_kd_at (l := X.evs) (k := (l.getD i 0).toNat) (by omega)
        have hlc := ev_lc_at (l := X.evs) (k := (l.getD i 0).toNat) (by omega)
        have hdl : (List.drop ((l.getD i 0).toNat * 6) (evsC X.evs)).length = X.evs.length * 6 - (l.getD i 0).toNat * 6 := by rw [List.length_drop, evsC_len]
        cases c1 : ((X.evs.getD (l.getD i 0).toNat ev0).kd != 2)
        case true =>
          simp (disch := omega) only [wp, Nat.reduceAdd, Nat.reduceMul, Nat.reduceSub, gl, e1, e2, e5, e6, e8, hg, hi1, hip, b1, b2, hkd, hlc, hdl, c1]
          exact ⟨_, rfl, fun h => by cases h⟩
        cases c2 : ((X.evs.getD (l.getD i 0).toNat ev0).lc != (loc : Int))
        case true =>
          simp (disch := omega) only [wp, Nat.reduceAdd, Nat.reduceMul, Nat.reduceSub, gl, e1, e2, e5, e6, e8, hg, hi1, hip, b1, b2, hkd, hlc, hdl, c1, c2]
          exact ⟨_, rfl, fun h => by cases h⟩
        simp (disch := omega) only [wp, Nat.reduceAdd, Nat.reduceMul, Nat.reduceSub, gl, e1, e2, e5, e6, e8, hg, hi1, hip, b1, b2, hkd, hlc, hdl, c1, c2]
        have hall' : ∀ j, j < i + 1 → 0 ≤ l.getD j 0 ∧ l.getD j 0 < X.evs.length ∧ (X.evs.getD (l.getD j 0).toNat ev0).kd = 2 ∧ (X.evs.getD (l.getD j 0).toNat ev0).lc = loc := by
          intro j hj
          by_cases hji : j = i
          · subst hji; exact ⟨by omega, by omega, by simpa using c1, by simpa using c2⟩
          · exact hall j (by omega)
        refine W_loop (fun q e g => ∃ k : Nat, q = i - k ∧ k ≤ i ∧ e 1 = .i .i64 loc ∧ e 2 = .mp 0 0 ∧ e 5 = .sl (intsC l) l.length .non ∧ e 6 = .i .i64 (N : Nat) ∧ e 8 = .i .i64 i ∧ e 9 = .i .i64 k ∧ g.hp 0 = some (.cells (grC X) false) ∧ 0 < g.nx ∧ (∀ m, m < k → l.getD m 0 ≠ l.getD i 0)) i ?_ ?_
        · refine ⟨0, rfl, Nat.zero_le _, ?_⟩
          simp (disch := omega) only [wp, Nat.reduceAdd, Nat.reduceMul, Nat.reduceSub, e1, e2, e5, e6, e8]
          exact ⟨rfl, hg, by first | omega | (dsimp only; omega), fun j hj => by omega⟩
        · rintro q e g ⟨k, rfl, hk, e1, e2, e5, e6, e8, e9, hg, hnx, hm⟩
          by_cases hk' : k < i
          · have hk1 : (k : Int) < i := by omega
            have hkl : (k : Int) < l.length := by omega
            have hwk := succ_wrap (k := k) (by omega)
            have hkp := ints_part (l := l) (k := k) (by omega)
            cases c3 : (l.getD k 0 == l.getD i 0)
            case true =>
              simp (disch := omega) only [wp, Nat.reduceAdd, Nat.reduceMul, Nat.reduceSub, gl, e1, e2, e5, e6, e8, e9, hg, hk1, hkl, hi1, hip, hkp, c3]
              exact ⟨_, rfl, fun h => by cases h⟩
            simp (disch := omega) only [wp, Nat.reduceAdd, Nat.reduceMul, Nat.reduceSub, gl, e1, e2, e5, e6, e8, e9, hg, hk1, hkl, hi1, hip, hkp, c3, hwk]
            refine ⟨i - (k + 1), by omega, k + 1, rfl, by omega, rfl, by first | omega | (dsimp only; omega), fun m hmk => ?_⟩
            by_cases hmk' : m = k
            · subst hmk'; simpa using c3
            · exact hm m (by omega)
          · obtain rfl : k = i := by omega
            have hk1 : ¬ ((k : Int) < k) := by omega
            simp (disch := omega) only [wp, Nat.reduceAdd, Nat.reduceMul, Nat.reduceSub, gl, e1, e2, e5, e6, e8, e9, hg, hk1, hwi]
            refine ⟨l.length - (k + 1), by omega, k + 1, rfl, by omega, rfl, by first | omega | (dsimp only; omega), hall', fun j hj m hmj => ?_⟩
            by_cases hjk : j = k
            · subst hjk; exact hm m hmj
            · exact hne j (by omega) m hmj
      · obtain rfl : i = l.length := by omega
        have hi1 : ¬ ((l.length : Int) < l.length) := by omega
        cases c4 : ((l.length : Int) == (N : Int))
        case false =>
          simp (disch := omega) only [wp, Nat.reduceAdd, Nat.reduceMul, Nat.reduceSub, gl, e1, e2, e5, e6, e8, hg, hi1, c4]
          exact ⟨_, rfl, fun h => by cases h⟩
        by_cases c5 : (0 : Int) < N
        case neg =>
          simp (disch := omega) only [wp, Nat.reduceAdd, Nat.reduceMul, Nat.reduceSub, gl, e1, e2, e5, e6, e8, hg, hi1, c4, c5]
          exact ⟨_, rfl, fun h => by cases h⟩
        have hlN : (l.length : Int) = N := by simpa using c4
        have hp0 := ints_part (l := l) (k := 0) (by omega)
        rw [Nat.zero_mul, List.drop_zero] at hp0
        simp (disch := omega) only [wp, Nat.reduceAdd, Nat.reduceMul, Nat.reduceSub, gl, e1, e2, e5, e6, e8, hg, hi1, c4, c5, hp0]
        exact ⟨_, rfl, fun h => fin hall hne (by omega) (by omega) (by simpa using h)⟩
end Go.Ab
end
section
set_option linter.unusedVariables false
set_option linter.unusedSimpArgs false
namespace Go.Ab
abbrev Mx := Nat → Nat → Bool
def matR (M : Mx) : List AV := (List.range 1600).map fun i => .b (M (i / 40) (i % 40))
def matC (n : Nat) (M : Mx) : List AV := .i .i64 n :: matR M
theorem matR_len (M : Mx) : (matR M).length = 1600 := by simp [matR]
theorem matC_len (n : Nat) (M : Mx) : (matC n M).length = 1601 := by simp [matC, matR_len]
theorem matR_get {M : Mx} {a b : Nat} (ha : a < 40) (hb : b < 40) : (matR M)[a * 40 + b]? = some (.b (M a b)) := by
  have h : a * 40 + b < 1600 := by omega
  simp only [matR, List.getElem?_map, List.getElem?_range h, Option.map_some]
  rw [show (a * 40 + b) / 40 = a by omega, show (a * 40 + b) % 40 = b by omega]
theorem matC_n (n : Nat) (M : Mx) : part (matC n M) 0 none = some (.i .i64 n) := rfl
theorem matC_drop1 (n : Nat) (M : Mx) : (matC n M).drop 1 = matR M := rfl
theorem matC_at {n : Nat} {M : Mx} {a b : Nat} (h : a < 40 ∧ b < 40) : part (matC n M) (0 + 1 + a * 40 + b * 1) none = some (.b (M a b)) := by
  rw [show 0 + 1 + a * 40 + b * 1 = (a * 40 + b) + 1 by omega]
  simp only [part, matC, List.getElem?_cons_succ, matR_get h.1 h.2]
theorem matR_at {M : Mx} {a b : Nat} (h : a < 40 ∧ b < 40) : part (((matR M).drop (a * 40)).drop (b * 1)) 0 none = some (.b (M a b)) := by
  simp only [part, List.getElem?_drop, Nat.mul_one, Nat.add_zero, matR_get h.1 h.2]
def upd2 (M : Mx) (a b : Nat) (x : Bool) : Mx := fun i j => if i = a ∧ j = b then x else M i j
theorem matC_set {n : Nat} {M : Mx} {a b : Nat} {x : Bool} (h : a < 40 ∧ b < 40) : (matC n M).set (0 + 1 + a * 40 + b * 1) (.b x) = matC n (upd2 M a b x) := by
  rw [show 0 + 1 + a * 40 + b * 1 = (a * 40 + b) + 1 by omega]
  simp only [matC, List.set_cons_succ]
  refine congrArg (List.cons _) ?_
  refine List.ext_getElem? fun i => ?_
  rw [List.getElem?_set, matR_len]
  by_cases hi : i < 1600
  · have e1 : (matR M)[i]? = some (.b (M (i / 40) (i % 40))) := by simp [matR, hi]
    have e2 : (matR (upd2 M a b x))[i]? = some (.b (upd2 M a b x (i / 40) (i % 40))) := by simp [matR, hi]
    rw [e1, e2]
    by_cases hab : a * 40 + b = i
    · rw [if_pos hab, if_pos (by omega)]
      unfold upd2
      rw [if_pos (by omega)]
    · rw [if_neg hab]
      unfold upd2
      rw [if_neg (by omega)]
  · have e1 : (matR M)[i]? = none := by rw [List.getElem?_eq_none]; rw [matR_len]; omega
    have e2 : (matR (upd2 M a b x))[i]? = none := by rw [List.getElem?_eq_none]; rw [matR_len]; omega
    rw [e1, e2, if_neg (by omega)]
theorem matC_flat (n : Nat) (M : Mx) : (matC n M).all flat = true := by simp [matC, matR, flat]
theorem matC_one (n : Nat) (M : Mx) : (matC n M).all one = true := by simp [matC, matR, one]
theorem matR_one (M : Mx) : (matR M).all one = true := by simp [matR, one]
theorem part_matR (M : Mx) : part (matR M) 0 (some 1600) = some (.agg (matR M)) := by
  simp [part, matR_len]
  rw [List.take_of_length_le (by rw [matR_len]; omega)]
theorem splice_mat (n : Nat) (M M' : Mx) : splice (matC n M) 1 (matR M') = matC n M' := by
  have h : ∀ (vs : List AV) (a : AV) (cs : List AV), 2 ≤ vs.length → vs.length = cs.length → splice (a :: cs) 1 vs = a :: vs := by
    intro vs a cs h2 h
    match vs, h2 with
    | u :: v :: vs, _ =>
      show List.take 1 (a :: cs) ++ (u :: v :: vs) ++ List.drop (1 + (u :: v :: vs).length) (a :: cs) = _
      rw [List.drop_eq_nil_of_le (by simp at h ⊢; omega)]
      simp
  exact h _ _ _ (by rw [matR_len]; omega) (by rw [matR_len, matR_len])
theorem zero_mat (n : Nat) : AV.i .i64 n :: List.replicate 1600 (.b false) = matC n (fun _ _ => false) := by
  unfold matC matR
  refine congrArg (List.cons _) ?_
  refine List.ext_getElem? fun i => ?_
  by_cases hi : i < 1600
  · rw [List.getElem?_replicate, if_pos hi, List.getElem?_map, List.getElem?_range hi]; rfl
  · rw [List.getElem?_eq_none (by rw [List.length_replicate]; omega), List.getElem?_eq_none (by rw [List.length_map, List.length_range]; omega)]
set_option maxRecDepth 10000 in
theorem ml : type_of% (And.intro (And.intro (And.intro @matC_n (And.intro @matC_at @matR_at)) (And.intro (And.intro @matC_drop1 @matC_len) (And.intro @matR_len @matC_one))) (And.intro (And.intro (And.intro @matR_one @matC_flat) (And.intro @part_matR @splice_mat)) (And.intro (And.intro @matC_set @retT_nrm) (And.intro @retT_ret @o_thaw)))) := (And.intro (And.intro (And.intro @matC_n (And.intro @matC_at @matR_at)) (And.intro (And.intro @matC_drop1 @matC_len) (And.intro @matR_len @matC_one))) (And.intro (And.intro (And.intro @matR_one @matC_flat) (And.intro @part_matR @splice_mat)) (And.intro (And.intro @matC_set @retT_nrm) (And.intro @retT_ret @o_thaw))))
end Go.Ab
end
section
set_option linter.unusedVariables false
set_option linter.unusedSimpArgs false
namespace Go.Ab
variable {F : Funs}
theorem pairs_a : ∀ {l : List (Int × Int)} {k : Nat} (h : k < l.length), part ((pairsC l).drop (k * 2)) 0 none = some (.i .i64 (l.getD k (0, 0)).1)
  | p :: l, 0, _ => by simp [pairsC, part]
  | p :: l, k + 1, h => by
    have := pairs_a (l := l) (k := k) (by simpa using h)
    simp only [List.getD_cons_succ]
    rw [← this]
    simp [pairsC, Nat.succ_mul]
theorem pairs_b : ∀ {l : List (Int × Int)} {k : Nat} (h : k < l.length), part (((pairsC l).drop (k * 2)).drop 1) 0 none = some (.i .i64 (l.getD k (0, 0)).2)
  | p :: l, 0, _ => by simp [pairsC, part]
  | p :: l, k + 1, h => by
    have := pairs_b (l := l) (k := k) (by simpa using h)
    simp only [List.getD_cons_succ]
    rw [← this]
    simp [pairsC, Nat.succ_mul]
def addM (n : Nat) (M : Mx) (p : Int × Int) : Mx := if inR n p then upd2 M p.1.toNat p.2.toNat true else M
def newM (n : Nat) (l : List (Int × Int)) : Mx := l.foldl (addM n) (fun _ _ => false)
theorem newM_take {n : Nat} {l : List (Int × Int)} {k : Nat} (h : k < l.length) : newM n (l.take (k + 1)) = addM n (newM n (l.take k)) (l.getD k (0, 0)) := by
  unfold newM
  rw [List.take_add_one, List.foldl_append, List.getElem?_eq_getElem h, List.getD_eq_getElem?_getD, List.getElem?_eq_getElem h]
  rfl
set_option maxHeartbeats 4000000 in
set_option maxRecDepth 100000 in
theorem new_W (n : Int) (l : List (Int × Int)) (t : Tok) (hlen : l.length < 9000000000000000000) : W F A_xref01_New.body (argEnv [.i .i64 n, .sl (pairsC l) l.length t]) g0 (retT A_xref01_New.res (matC (clamp n) (newM (clamp n) l))) := by
  have c1 : (if (40 : Int) < (if n < 0 then (0 : Int) else n) then (40 : Int) else (if n < 0 then (0 : Int) else n)) = clamp n := by unfold clamp; split <;> split <;> omega
  have hcl := clamp_le n
  simp (disch := omega) only [A_xref01_New, wp, Nat.reduceAdd, Nat.reduceMul, Nat.reduceSub, c1, List.all_append, List.all_replicate, zero_mat, ml]
  generalize clamp n = N at hcl
  refine W_loop (fun m e g => ∃ k, m = l.length - k ∧ k ≤ l.length ∧ e 1 = .sl (pairsC l) l.length t ∧ e 6 = .i .i64 k ∧ e 5 = .mp 5 0 ∧ g.hp 5 = some (.cells (matC N (newM N (l.take k))) false) ∧ 5 < g.nx) l.length ?_ ?_
  · refine ⟨0, rfl, Nat.zero_le _, ?_⟩
    simp (disch := omega) only [wp, Nat.reduceAdd, Nat.reduceMul, Nat.reduceSub]
    exact ⟨rfl, rfl, by omega⟩
  · rintro m e g ⟨k, rfl, hk, h1, h6, h5, hg, hn⟩
    by_cases hk' : k < l.length
    · have hk1 : (k : Int) < l.length := by omega
      have hpa := pairs_a hk'
      have hpb := pairs_b hk'
      have hw := succ_wrap (k := k) (by omega)
      have ht := newM_take (n := N) hk'
      generalize l.getD k (0, 0) = p at hpa hpb ht
      obtain ⟨a, b⟩ := p
      by_cases i1 : 0 ≤ a
      · by_cases i2 : 0 ≤ b
        · by_cases i3 : a < N
          · by_cases i4 : b < N
            · have hset := matC_set (n := N) (M := newM N (l.take k)) (a := a.toNat) (b := b.toNat) (x := true) (by omega)
              simp (disch := omega) only [wp, Nat.reduceAdd, Nat.reduceMul, Nat.reduceSub, h1, h5, h6, hk1, hpa, hpb, hg, i1, i2, i3, i4, hw, ml, List.length_drop, pairsC_len, hset]
              refine ⟨_, ?_, k + 1, rfl, by omega, rfl, ?_, by first | omega | (dsimp only; omega)⟩
              · omega
              · rw [ht]; simp [addM, inR, i1, i2, i3, i4]
            · simp (disch := omega) only [wp, Nat.reduceAdd, Nat.reduceMul, Nat.reduceSub, h1, h5, h6, hk1, hpa, hpb, hg, i1, i2, i3, i4, hw, ml, List.length_drop, pairsC_len]
              refine ⟨_, ?_, k + 1, rfl, by omega, rfl, ?_, by first | omega | (dsimp only; omega)⟩
              · omega
              · rw [ht]; simp [addM, inR, i4]
          · simp (disch := omega) only [wp, Nat.reduceAdd, Nat.reduceMul, Nat.reduceSub, h1, h5, h6, hk1, hpa, hpb, hg, i1, i2, i3, hw, ml, List.length_drop, pairsC_len]
            refine ⟨_, ?_, k + 1, rfl, by omega, rfl, ?_, by first | omega | (dsimp only; omega)⟩
            · omega
            · rw [ht]; simp [addM, inR, i3]
        · simp (disch := omega) only [wp, Nat.reduceAdd, Nat.reduceMul, Nat.reduceSub, h1, h5, h6, hk1, hpa, hpb, hg, i1, i2, hw, ml, List.length_drop, pairsC_len]
          refine ⟨_, ?_, k + 1, rfl, by omega, rfl, ?_, by first | omega | (dsimp only; omega)⟩
          · omega
          · rw [ht]; simp [addM, inR, i2]
      · simp (disch := omega) only [wp, Nat.reduceAdd, Nat.reduceMul, Nat.reduceSub, h1, h5, h6, hk1, hpa, hpb, hg, i1, hw, ml, List.length_drop, pairsC_len]
        refine ⟨_, ?_, k + 1, rfl, by omega, rfl, ?_, by first | omega | (dsimp only; omega)⟩
        · omega
        · rw [ht]; simp [addM, inR, i1]
    · obtain rfl : k = l.length := by omega
      have hk1 : ¬ ((l.length : Int) < l.length) := by omega
      simp (disch := omega) only [wp, Nat.reduceAdd, Nat.reduceMul, Nat.reduceSub, h1, h5, h6, hk1, hg, retT_ret, List.take_length]
      exact ⟨5, rfl, hg.trans (by rw [List.take_length])⟩
theorem sp_newM (h27 : F 27 = some A_xref01_New) (n : Int) (l : List (Int × Int)) (t : Tok) (hlen : l.length < 9000000000000000000) : pureS F 27 [.i .i64 n, .sl (pairsC l) l.length t] = some (.ptr (matC (clamp n) (newM (clamp n) l))) :=
  pure_of_thaw h27 (matC_flat _ _) (new_W n l t hlen)
theorem sp_newT (h27 : F 27 = some A_xref01_New) {n : Nat} (hn : n ≤ 40) (t : Tok) : thawS F 27 [.i .i64 n, .sl [] 0 t] = some (matC n fun _ _ => false) := by
  have := thaw_of h27 (matC_flat _ _) (new_W (F := F) (n : Int) [] t (by simp))
  rw [show clamp (n : Int) = n by unfold clamp; omega] at this
  exact this
end Go.Ab
end
section
set_option linter.unusedVariables false
set_option linter.unusedSimpArgs false
namespace Go.Ab
variable {F : Funs}
def lessP (p q : Int × Int) : Prop := p.1 < q.1 ∨ (p.1 = q.1 ∧ p.2 < q.2)
def Rising (l : List (Int × Int)) : Prop := ∀ i, i + 1 < l.length → lessP (l.getD i (0, 0)) (l.getD (i + 1) (0, 0))
set_option maxRecDepth 100000 in
set_option maxHeartbeats 4000000 in
theorem sp_rising (h82 : F 82 = some A_xref06_rising) (l : List (Int × Int)) (t : Tok) (hl : l.length ≤ 1000) : ∃ b, pureS F 82 [.sl (pairsC l) l.length t] = some (.b b) ∧ (b = true → Rising l) := by
  refine pureB_of h82 ?_
  have fin : (∀ i, i + 1 < l.length → lessP (l.getD i (0, 0)) (l.getD (i + 1) (0, 0))) → Rising l := id
  generalize Rising l = P at fin
  simp (disch := omega) only [A_xref06_rising, wp, Nat.reduceAdd, Nat.reduceMul, Nat.reduceSub, gl]
  refine W_loop (fun q e g => ∃ k : Nat, q = l.length - k ∧ k ≤ l.length ∧ e 0 = .sl (pairsC l) l.length t ∧ e 3 = .i .i64 ((k + 1 : Nat) : Int) ∧ (∀ i, i + 1 < k + 1 → lessP (l.getD i (0, 0)) (l.getD (i + 1) (0, 0)))) l.length ?_ ?_
  · refine ⟨0, rfl, Nat.zero_le _, ?_⟩
    simp (disch := omega) only [wp, Nat.reduceAdd, Nat.reduceMul, Nat.reduceSub]
    exact ⟨rfl, fun i hi => by omega⟩
  · rintro q e g ⟨k, rfl, hk, e0, e3, hall⟩
    by_cases hk' : k + 1 < l.length
    · have hk1 : ((k + 1 : Nat) : Int) < l.length := by omega
      have hk0 : (k : Int) < l.length := by omega
      have hwk := succ_wrap (k := k + 1) (by omega)
      have hw1 : IntKind.i64.wrap (((k + 1 : Nat) : Int) - 1) = (k : Int) := by rw [i64_wrap (by omega) (by omega)]; omega
      have a0 := pairs_a (l := l) (k := k) (by omega)
      have b0 := pairs_b (l := l) (k := k) (by omega)
      have a1 := pairs_a hk'
      have b1 := pairs_b hk'
      have d0 : (List.drop (k * 2) (pairsC l)).length = l.length * 2 - k * 2 := by rw [List.length_drop, pairsC_len]
      have d1 : (List.drop ((k + 1) * 2) (pairsC l)).length = l.length * 2 - (k + 1) * 2 := by rw [List.length_drop, pairsC_len]
      have step : lessP (l.getD k (0, 0)) (l.getD (k + 1) (0, 0)) → ∀ i, i + 1 < k + 1 + 1 → lessP (l.getD i (0, 0)) (l.getD (i + 1) (0, 0)) := by
        intro h i hi
        by_cases hik : i = k
        · subst hik; exact h
        · exact hall i (by omega)
      generalize l.getD k (0, 0) = p at a0 b0 step
      generalize l.getD (k + 1) (0, 0) = q at a1 b1 step
      by_cases c1 : q.1 < p.1
      case pos =>
        simp (disch := omega) only [wp, Nat.reduceAdd, Nat.reduceMul, Nat.reduceSub, gl, e0, e3, hk1, hk0, hw1, a0, a1, b0, b1, d0, d1, c1]
        exact ⟨_, rfl, fun h => by cases h⟩
      cases c2 : (q.1 == p.1)
      case false =>
        have ne : q.1 ≠ p.1 := by simpa using c2
        simp (disch := omega) only [wp, Nat.reduceAdd, Nat.reduceMul, Nat.reduceSub, gl, e0, e3, hk1, hk0, hw1, a0, a1, b0, b1, d0, d1, c1, c2, hwk]
        exact ⟨l.length - (k + 1), by omega, k + 1, rfl, by omega, rfl, step (.inl (by omega))⟩
      by_cases c3 : q.2 ≤ p.2
      case pos =>
        simp (disch := omega) only [wp, Nat.reduceAdd, Nat.reduceMul, Nat.reduceSub, gl, e0, e3, hk1, hk0, hw1, a0, a1, b0, b1, d0, d1, c1, c2, c3]
        exact ⟨_, rfl, fun h => by cases h⟩
      have eq : q.1 = p.1 := by simpa using c2
      simp (disch := omega) only [wp, Nat.reduceAdd, Nat.reduceMul, Nat.reduceSub, gl, e0, e3, hk1, hk0, hw1, a0, a1, b0, b1, d0, d1, c1, c2, c3, hwk]
      exact ⟨l.length - (k + 1), by omega, k + 1, rfl, by omega, rfl, step (.inr ⟨by omega, by omega⟩)⟩
    · have hk1 : ¬ (((k + 1 : Nat) : Int) < l.length) := by omega
      simp (disch := omega) only [wp, Nat.reduceAdd, Nat.reduceMul, Nat.reduceSub, gl, e0, e3, hk1]
      exact ⟨_, rfl, fun _ => fin fun i hi => hall i (by omega)⟩
def DepOk (X : Gr) (p : Int × Int) : Prop := 0 ≤ p.1 ∧ p.1 < p.2 ∧ p.2 < X.evs.length ∧ (X.evs.getD p.1.toNat ev0).kd = 1 ∧ (X.evs.getD p.1.toNat ev0).th = (X.evs.getD p.2.toNat ev0).th
def DepsOk (X : Gr) (l : List (Int × Int)) : Prop := (∀ i, i < l.length → DepOk X (l.getD i (0, 0))) ∧ Rising l
set_option maxRecDepth 100000 in
set_option maxHeartbeats 4000000 in
theorem sp_deps (h67 : F 67 = some A_xref06_deps) (h82 : F 82 = some A_xref06_rising) (X : Gr) (l : List (Int × Int)) (t : Tok) (hl : l.length ≤ 1000) : ∃ b, pureS F 67 [.agg (grC X), .sl (pairsC l) l.length t] = some (.b b) ∧ (b = true → DepsOk X l) := by
  refine pureB_of h67 ?_
  have fin : (∀ i, i < l.length → DepOk X (l.getD i (0, 0))) ∧ Rising l → DepsOk X l := id
  generalize DepsOk X l = P at fin
  obtain ⟨br, hr, hrt⟩ := sp_rising h82 l .non hl
  simp (disch := omega) only [A_xref06_deps, wp, Nat.reduceAdd, Nat.reduceMul, Nat.reduceSub, gl]
  refine W_loop (fun q e g => ∃ k : Nat, q = l.length - k ∧ k ≤ l.length ∧ e 1 = .sl (pairsC l) l.length t ∧ e 2 = .mp 0 0 ∧ e 5 = .i .i64 k ∧ g.hp 0 = some (.cells (grC X) false) ∧ 0 < g.nx ∧ (∀ i, i < k → DepOk X (l.getD i (0, 0)))) l.length ?_ ?_
  · refine ⟨0, rfl, Nat.zero_le _, ?_⟩
    simp (disch := omega) only [wp, Nat.reduceAdd, Nat.reduceMul, Nat.reduceSub]
    exact ⟨rfl, by first | omega | (dsimp only; omega), fun i hi => by omega⟩
  · rintro q e g ⟨k, rfl, hk, e1, e2, e5, hg, hnx, hall⟩
    by_cases hk' : k < l.length
    · have hk1 : (k : Int) < l.length := by omega
      have hwk := succ_wrap (k := k) (by omega)
      have a0 := pairs_a hk'
      have b0 := pairs_b hk'
      have d0 : (List.drop (k * 2) (pairsC l)).length = l.length * 2 - k * 2 := by rw [List.length_drop, pairsC_len]
      have step : DepOk X (l.getD k (0, 0)) → ∀ i, i < k + 1 → DepOk X (l.getD i (0, 0)) := by
        intro h i hi
        by_cases hik : i = k
        · subst hik; exact h
        · exact hall i (by omega)
      generalize l.getD k (0, 0) = p at a0 b0 step
      obtain ⟨a, b⟩ := p
      simp only at a0 b0
      by_cases c1 : a < 0
      case pos =>
        simp (disch := omega) only [wp, Nat.reduceAdd, Nat.reduceMul, Nat.reduceSub, gl, e1, e2, e5, hg, hk1, a0, b0, d0, c1]
        exact ⟨_, rfl, fun h => by cases h⟩
      by_cases c2 : b ≤ a
      case pos =>
        simp (disch := omega) only [wp, Nat.reduceAdd, Nat.reduceMul, Nat.reduceSub, gl, e1, e2, e5, hg, hk1, a0, b0, d0, c1, c2]
        exact ⟨_, rfl, fun h => by cases h⟩
      by_cases c3 : (X.evs.length : Int) ≤ b
      case pos =>
        simp (disch := omega) only [wp, Nat.reduceAdd, Nat.reduceMul, Nat.reduceSub, gl, e1, e2, e5, hg, hk1, a0, b0, d0, c1, c2, c3]
        exact ⟨_, rfl, fun h => by cases h⟩
      have ka := ev_kd_at (l := X.evs) (k := a.toNat) (by omega)
      have ta := ev_th_at (l := X.evs) (k := a.toNat) (by omega)
      have tb := ev_th_at (l := X.evs) (k := b.toNat) (by omega)
      have da : (List.drop (a.toNat * 6) (evsC X.evs)).length = X.evs.length * 6 - a.toNat * 6 := by rw [List.length_drop, evsC_len]
      have db : (List.drop (b.toNat * 6) (evsC X.evs)).length = X.evs.length * 6 - b.toNat * 6 := by rw [List.length_drop, evsC_len]
      cases c4 : ((X.evs.getD a.toNat ev0).kd != 1)
      case true =>
        simp (disch := omega) only [wp, Nat.reduceAdd, Nat.reduceMul, Nat.reduceSub, gl, e1, e2, e5, hg, hk1, a0, b0, d0, c1, c2, c3, ka, ta, tb, da, db, c4]
        exact ⟨_, rfl, fun h => by cases h⟩
      cases c5 : ((X.evs.getD a.toNat ev0).th != (X.evs.getD b.toNat ev0).th)
      case true =>
        simp (disch := omega) only [wp, Nat.reduceAdd, Nat.reduceMul, Nat.reduceSub, gl, e1, e2, e5, hg, hk1, a0, b0, d0, c1, c2, c3, ka, ta, tb, da, db, c4, c5]
        exact ⟨_, rfl, fun h => by cases h⟩
      simp (disch := omega) only [wp, Nat.reduceAdd, Nat.reduceMul, Nat.reduceSub, gl, e1, e2, e5, hg, hk1, a0, b0, d0, c1, c2, c3, ka, ta, tb, da, db, c4, c5, hwk]
      refine ⟨l.length - (k + 1), by omega, k + 1, rfl, by omega, rfl, by first | omega | (dsimp only; omega), step ⟨?_, ?_, ?_, by simpa using c4, by simpa using c5⟩⟩ <;> (dsimp only; omega)
    · obtain rfl : k = l.length := by omega
      have hk1 : ¬ ((l.length : Int) < l.length) := by omega
      simp (disch := omega) only [wp, Nat.reduceAdd, Nat.reduceMul, Nat.reduceSub, gl, e1, e2, e5, hg, hk1, hr]
      exact ⟨_, rfl, fun h => fin ⟨hall, hrt h⟩⟩
end Go.Ab
end
section
set_option linter.unusedVariables false
set_option linter.unusedSimpArgs false
namespace Go.Ab
variable {F : Funs}
def cntC (f : Nat → Nat) : List AV := (List.range 40).map fun i => .i .i64 (f i)
theorem cntC_len (f) : (cntC f).length = 40 := by simp [cntC]
theorem cnt_zero : List.replicate 40 (AV.i .i64 0) = cntC (fun _ => 0) := by rfl
theorem cnt_at {f : Nat → Nat} {a : Nat} (h : a < 40) : part (cntC f) (a * 1) none = some (.i .i64 (f a)) := by
  simp only [part, cntC, Nat.mul_one, List.getElem?_map, List.getElem?_range h, Option.map_some]
theorem cnt_set {f : Nat → Nat} {a n : Nat} (h : a < 40) : (cntC f).set (a * 1) (.i .i64 (n : Int)) = cntC (upd f a n) := by
  rw [Nat.mul_one]
  refine List.ext_getElem? fun i => ?_
  rw [List.getElem?_set]
  unfold cntC
  by_cases hi : i < 40
  · by_cases ha : a = i
    · subst ha
      simp [hi, upd]
    · have : i ≠ a := fun h => ha h.symm
      simp [hi, ha, upd, this]
  · by_cases ha : a = i
    · omega
    · simp [hi, ha]
def inB (i : Nat) (p : Int × Int) : Bool := p.1 == (i : Int) || p.2 == (i : Int)
def inC (l : List (Int × Int)) (i : Nat) : Nat := (l.filter (inB i)).length
theorem inC_take {l : List (Int × Int)} {k : Nat} (h : k < l.length) (i : Nat) : inC (l.take (k + 1)) i = inC (l.take k) i + if inB i (l.getD k (0, 0)) then 1 else 0 := by
  unfold inC
  rw [List.take_add_one, List.filter_append, List.getElem?_eq_getElem h, List.getD_eq_getElem?_getD, List.getElem?_eq_getElem h, List.length_append]
  simp only [Option.toList, Option.getD_some, List.filter_cons, List.filter_nil]
  split <;> rfl
theorem inC_le (l : List (Int × Int)) (i : Nat) : inC l i ≤ l.length := List.length_filter_le _ _
def PairOk (X : Gr) (p : Int × Int) : Prop := 0 ≤ p.1 ∧ p.1 < X.evs.length - 1 ∧ p.2 = p.1 + 1 ∧ (X.evs.getD p.1.toNat ev0).th = (X.evs.getD p.2.toNat ev0).th ∧ (X.evs.getD p.1.toNat ev0).kd = 1 ∧ (X.evs.getD p.2.toNat ev0).kd = 2 ∧ (X.evs.getD p.1.toNat ev0).lc = (X.evs.getD p.2.toNat ev0).lc ∧ (X.evs.getD p.1.toNat ev0).ex = true ∧ (X.evs.getD p.2.toNat ev0).ex = true
structure RmwOk (X : Gr) : Prop where
  pairs : ∀ j, j < X.rmw.length → PairOk X (X.rmw.getD j (0, 0))
  once : ∀ i, i < X.evs.length → inC X.rmw i ≤ 1 ∧ (X.evs.getD i ev0).ex = ((inC X.rmw i : Int) == 1)
  rise : Rising X.rmw
set_option maxRecDepth 100000 in
set_option maxHeartbeats 4000000 in
theorem sp_rmw (h66 : F 66 = some A_xref06_rmw) (h82 : F 82 = some A_xref06_rising) {X : Gr} (hn : X.evs.length ≤ 40) (hl : X.rmw.length ≤ 1000) : ∃ b, pureS F 66 [.agg (grC X)] = some (.b b) ∧ (b = true → RmwOk X) := by
  refine pureB_of h66 ?_
  have fin : (∀ j, j < X.rmw.length → PairOk X (X.rmw.getD j (0, 0))) → (∀ i, i < X.evs.length → inC X.rmw i ≤ 1 ∧ (X.evs.getD i ev0).ex = ((inC X.rmw i : Int) == 1)) → Rising X.rmw → RmwOk X := fun a b c => ⟨a, b, c⟩
  generalize RmwOk X = P at fin
  obtain ⟨br, hr, hrt⟩ := sp_rising h82 X.rmw .non hl
  have s6 : ∀ b1 b2 b3 b4 b5 b6 c1 c2 c3 c4 c5 c6 : AV, splice [b1, b2, b3, b4, b5, b6] 0 [c1, c2, c3, c4, c5, c6] = [c1, c2, c3, c4, c5, c6] := fun _ _ _ _ _ _ _ _ _ _ _ _ => rfl
  simp (disch := omega) only [A_xref06_rmw, wp, Nat.reduceAdd, Nat.reduceMul, Nat.reduceSub, gl, cnt_zero]
  refine blk_cutR (fun e g => e 1 = .mp 0 0 ∧ e 3 = .mp 2 0 ∧ g.hp 0 = some (.cells (grC X) false) ∧ g.hp 2 = some (.cells (cntC (inC X.rmw)) false) ∧ 2 < g.nx ∧ ∀ j, j < X.rmw.length → PairOk X (X.rmw.getD j (0, 0))) ?_ ?_
  · refine W_loop (fun q e g => ∃ k : Nat, q = X.rmw.length - k ∧ k ≤ X.rmw.length ∧ e 1 = .mp 0 0 ∧ e 3 = .mp 2 0 ∧ e 4 = .i .i64 k ∧ g.hp 0 = some (.cells (grC X) false) ∧ g.hp 2 = some (.cells (cntC (inC (X.rmw.take k))) false) ∧ 2 < g.nx ∧ ∀ j, j < k → PairOk X (X.rmw.getD j (0, 0))) X.rmw.length ?_ ?_
    · refine ⟨0, rfl, Nat.zero_le _, ?_⟩
      simp (disch := omega) only [wp, Nat.reduceAdd, Nat.reduceMul, Nat.reduceSub]
      exact ⟨rfl, by rfl, by first | omega | (dsimp only; omega), fun i hi => by omega⟩
    · rintro q e g ⟨k, rfl, hk, e1, e3, e4, hg, hc, hnx, hall⟩
      by_cases hk' : k < X.rmw.length
      · have hk1 : (k : Int) < X.rmw.length := by omega
        have hwk := succ_wrap (k := k) (by omega)
        have a0 := pairs_a hk'
        have b0 := pairs_b hk'
        have d0 : (List.drop (k * 2) (pairsC X.rmw)).length = X.rmw.length * 2 - k * 2 := by rw [List.length_drop, pairsC_len]
        have hin := inC_take hk'
        have hinl : ∀ i, inC (X.rmw.take k) i ≤ 1000 := fun i => by
          have := inC_le (X.rmw.take k) i
          rw [List.length_take] at this; omega
        have step : PairOk X (X.rmw.getD k (0, 0)) → ∀ i, i < k + 1 → PairOk X (X.rmw.getD i (0, 0)) := by
          intro h i hi
          by_cases hik : i = k
          · subst hik; exact h
          · exact hall i (by omega)
        generalize X.rmw.getD k (0, 0) = p at a0 b0 step hin
        generalize inC (X.rmw.take k) = f at hc hin hinl
        obtain ⟨a, b⟩ := p
        simp only at a0 b0
        by_cases c1 : a < 0
        case pos =>
          simp (disch := omega) only [wp, Nat.reduceAdd, Nat.reduceMul, Nat.reduceSub, gl, e1, e3, e4, hg, hc, hk1, a0, b0, d0, c1]
          exact ⟨_, rfl, fun h => by cases h⟩
        have hws : IntKind.i64.wrap ((X.evs.length : Int) - 1) = (X.evs.length : Int) - 1 := by rw [i64_wrap (by omega) (by omega)]
        by_cases c2 : (X.evs.length : Int) - 1 ≤ a
        case pos =>
          simp (disch := omega) only [wp, Nat.reduceAdd, Nat.reduceMul, Nat.reduceSub, gl, e1, e3, e4, hg, hc, hk1, a0, b0, d0, c1, c2, hws]
          exact ⟨_, rfl, fun h => by cases h⟩
        have hwa : IntKind.i64.wrap (a + 1) = a + 1 := by rw [i64_wrap (by omega) (by omega)]
        cases c3 : (b != a + 1)
        case true =>
          simp (disch := omega) only [wp, Nat.reduceAdd, Nat.reduceMul, Nat.reduceSub, gl, e1, e3, e4, hg, hc, hk1, a0, b0, d0, c1, c2, hws, hwa, c3]
          exact ⟨_, rfl, fun h => by cases h⟩
        have hba : b = a + 1 := by simpa using c3
        have pa := ev_part (l := X.evs) (k := a.toNat) (by omega)
        have pb := ev_part (l := X.evs) (k := b.toNat) (by omega)
        have hal : a < X.evs.length := by omega
        have hbl : b < X.evs.length := by omega
        unfold PairOk at step
        simp only at step
        generalize X.evs.getD a.toNat ev0 = u at pa step
        generalize X.evs.getD b.toNat ev0 = v at pb step
        obtain ⟨th, kd, md, lc, vl, ex⟩ := u
        obtain ⟨th', kd', md', lc', vl', ex'⟩ := v
        simp only at step
        cases c4 : (th != th')
        case true =>
          simp (disch := omega) only [wp, Nat.reduceAdd, Nat.reduceMul, Nat.reduceSub, gl, e1, e3, e4, hg, hc, hk1, a0, b0, d0, c1, c2, hws, hwa, c3, pa, pb, s6, c4]
          exact ⟨_, rfl, fun h => by cases h⟩
        cases c5 : (kd != 1)
        case true =>
          simp (disch := omega) only [wp, Nat.reduceAdd, Nat.reduceMul, Nat.reduceSub, gl, e1, e3, e4, hg, hc, hk1, a0, b0, d0, c1, c2, hws, hwa, c3, pa, pb, s6, c4, c5]
          exact ⟨_, rfl, fun h => by cases h⟩
        cases c6 : (kd' != 2)
        case true =>
          simp (disch := omega) only [wp, Nat.reduceAdd, Nat.reduceMul, Nat.reduceSub, gl, e1, e3, e4, hg, hc, hk1, a0, b0, d0, c1, c2, hws, hwa, c3, pa, pb, s6, c4, c5, c6]
          exact ⟨_, rfl, fun h => by cases h⟩
        cases c7 : (lc != lc')
        case true =>
          simp (disch := omega) only [wp, Nat.reduceAdd, Nat.reduceMul, Nat.reduceSub, gl, e1, e3, e4, hg, hc, hk1, a0, b0, d0, c1, c2, hws, hwa, c3, pa, pb, s6, c4, c5, c6, c7]
          exact ⟨_, rfl, fun h => by cases h⟩
        cases ex
        case false =>
          simp (disch := omega) only [wp, Nat.reduceAdd, Nat.reduceMul, Nat.reduceSub, gl, e1, e3, e4, hg, hc, hk1, a0, b0, d0, c1, c2, hws, hwa, c3, pa, pb, s6, c4, c5, c6, c7]
          exact ⟨_, rfl, fun h => by cases h⟩
        cases ex'
        case false =>
          simp (disch := omega) only [wp, Nat.reduceAdd, Nat.reduceMul, Nat.reduceSub, gl, e1, e3, e4, hg, hc, hk1, a0, b0, d0, c1, c2, hws, hwa, c3, pa, pb, s6, c4, c5, c6, c7]
          exact ⟨_, rfl, fun h => by cases h⟩
        have ra := cnt_at (f := f) (a := a.toNat) (by omega)
        have hf1 := succ_wrap (k := f a.toNat) (by have := hinl a.toNat; omega)
        have sa := cnt_set (f := f) (a := a.toNat) (n := f a.toNat + 1) (by omega)
        have rb := cnt_at (f := upd f a.toNat (f a.toNat + 1)) (a := b.toNat) (by omega)
        rw [upd_ne _ _ (by omega)] at rb
        have hf2 := succ_wrap (k := f b.toNat) (by have := hinl b.toNat; omega)
        have sb := cnt_set (f := upd f a.toNat (f a.toNat + 1)) (a := b.toNat) (n := f b.toNat + 1) (by omega)
        have hfin : upd (upd f a.toNat (f a.toNat + 1)) b.toNat (f b.toNat + 1) = inC (X.rmw.take (k + 1)) := by
          funext i
          rw [hin i]
          unfold upd inB
          by_cases i1 : i = b.toNat
          · have : (b == (i : Int)) = true := by simp; omega
            rw [if_pos i1, this, Bool.or_true, if_pos rfl, i1]
          · rw [if_neg i1]
            have n1 : (b == (i : Int)) = false := by simp; omega
            by_cases i2 : i = a.toNat
            · have : (a == (i : Int)) = true := by simp; omega
              rw [if_pos i2, this, Bool.true_or, if_pos rfl, i2]
            · have n2 : (a == (i : Int)) = false := by simp; omega
              rw [if_neg i2, n1, n2]; rfl
        simp (disch := omega) only [wp, Nat.reduceAdd, Nat.reduceMul, Nat.reduceSub, gl, e1, e3, e4, hg, hc, hk1, a0, b0, d0, c1, c2, hws, hwa, c3, pa, pb, s6, c4, c5, c6, c7, cntC_len, ra, hf1, sa, rb, hf2, sb, hfin, hwk]
        refine ⟨X.rmw.length - (k + 1), by omega, k + 1, rfl, by omega, rfl, rfl, by first | omega | (dsimp only; omega), step ⟨by omega, by omega, hba, by simpa using c4, by simpa using c5, by simpa using c6, by simpa using c7, rfl, rfl⟩⟩
      · obtain rfl : k = X.rmw.length := by omega
        have hk1 : ¬ ((X.rmw.length : Int) < X.rmw.length) := by omega
        rw [List.take_length] at hc
        simp (disch := omega) only [wp, Nat.reduceAdd, Nat.reduceMul, Nat.reduceSub, gl, e1, e3, e4, hg, hc, hk1]
        exact ⟨by first | omega | (dsimp only; omega), hall⟩
  · rintro e g ⟨e1, e3, hg, hc, hnx, hall⟩
    have hinl : ∀ i, inC X.rmw i ≤ 1000 := fun i => by
      have := inC_le X.rmw i; omega
    have fin := fin hall
    generalize inC X.rmw = f at hc fin hinl
    simp (disch := omega) only [wp, Nat.reduceAdd, Nat.reduceMul, Nat.reduceSub, e1, e3]
    refine W_loop (fun q e g => ∃ k : Nat, q = X.evs.length - k ∧ k ≤ X.evs.length ∧ e 1 = .mp 0 0 ∧ e 3 = .mp 2 0 ∧ e 9 = .i .i64 k ∧ g.hp 0 = some (.cells (grC X) false) ∧ g.hp 2 = some (.cells (cntC f) false) ∧ 2 < g.nx ∧ ∀ i, i < k → f i ≤ 1 ∧ (X.evs.getD i ev0).ex = ((f i : Int) == 1)) X.evs.length ?_ ?_
    · refine ⟨0, rfl, Nat.zero_le _, ?_⟩
      simp (disch := omega) only [wp, Nat.reduceAdd, Nat.reduceMul, Nat.reduceSub, e1, e3]
      exact ⟨rfl, hg, hc, by first | omega | (dsimp only; omega), fun i hi => by omega⟩
    · rintro q e g ⟨k, rfl, hk, e1, e3, e9, hg, hc, hnx, hev⟩
      by_cases hk' : k < X.evs.length
      · have hk1 : (k : Int) < X.evs.length := by omega
        have hk40 : (k : Int) < 40 := by omega
        have hwk := succ_wrap (k := k) (by omega)
        have rk := cnt_at (f := f) (a := k) (by omega)
        have hex := ev_ex_at hk'
        have hdl : (List.drop (k * 6) (evsC X.evs)).length = X.evs.length * 6 - k * 6 := by rw [List.length_drop, evsC_len]
        have step : f k ≤ 1 ∧ (X.evs.getD k ev0).ex = ((f k : Int) == 1) → ∀ i, i < k + 1 → f i ≤ 1 ∧ (X.evs.getD i ev0).ex = ((f i : Int) == 1) := by
          intro h i hi
          by_cases hik : i = k
          · subst hik; exact h
          · exact hev i (by omega)
        generalize (X.evs.getD k ev0).ex = ex at hex step
        by_cases c1 : 1 < (f k : Int)
        case pos =>
          simp (disch := omega) only [wp, Nat.reduceAdd, Nat.reduceMul, Nat.reduceSub, gl, e1, e3, e9, hg, hc, hk1, rk, c1]
          exact ⟨_, rfl, fun h => by cases h⟩
        cases c2 : (ex == ((f k : Int) == 1))
        case false =>
          simp (disch := omega) only [wp, Nat.reduceAdd, Nat.reduceMul, Nat.reduceSub, gl, e1, e3, e9, hg, hc, hk1, rk, c1, hex, hdl, c2]
          exact ⟨_, rfl, fun h => by cases h⟩
        simp (disch := omega) only [wp, Nat.reduceAdd, Nat.reduceMul, Nat.reduceSub, gl, e1, e3, e9, hg, hc, hk1, rk, c1, hex, hdl, c2, hwk]
        refine ⟨X.evs.length - (k + 1), by omega, k + 1, rfl, by omega, rfl, by first | omega | (dsimp only; omega), step ⟨by omega, by simpa using c2⟩⟩
      · obtain rfl : k = X.evs.length := by omega
        have hk1 : ¬ ((X.evs.length : Int) < X.evs.length) := by omega
        simp (disch := omega) only [wp, Nat.reduceAdd, Nat.reduceMul, Nat.reduceSub, gl, e1, e3, e9, hg, hc, hk1, hr]
        exact ⟨_, rfl, fun h => fin hev (hrt h)⟩
end Go.Ab
end
section
set_option linter.unusedVariables false
set_option linter.unusedSimpArgs false
namespace Go.Ab
variable {F : Funs}
structure GraphOk (X : Gr) : Prop where
  locs1 : 1 ≤ X.locs
  locs4 : X.locs ≤ 4
  nl : X.locs ≤ X.evs.length
  n40 : X.evs.length ≤ 40
  rfl : X.rf.length = X.evs.length
  col : (X.co.length : Int) = X.locs
  ev : ∀ i, i < X.evs.length → EvOk X.locs i (X.evs.getD (i - 1) ev0) (X.evs.getD i ev0)
  rf : ∀ i, i < X.evs.length → RfOk X i
  co : ∀ i, i < X.co.length → CoOk X i
  rmw : RmwOk X
  data : DepsOk X X.data
  ctrl : DepsOk X X.ctrl
  ctrli : DepsOk X X.ctrli
set_option maxRecDepth 100000 in
set_option maxHeartbeats 4000000 in
theorem sp_check (h45 : F 45 = some A_xref06_Check) (h63 : F 63 = some A_xref06_event) (h64 : F 64 = some A_xref06_rf) (h65 : F 65 = some A_xref06_co) (h66 : F 66 = some A_xref06_rmw) (h67 : F 67 = some A_xref06_deps) (h82 : F 82 = some A_xref06_rising) {X : Gr} (hX : FewG X) : ∃ b, pureS F 45 [.agg (grC X)] = some (.b b) ∧ (b = true → GraphOk X) := by
  refine pureB_of h45 ?_
  have fin : 1 ≤ X.locs → X.locs ≤ 4 → X.locs ≤ X.evs.length → X.evs.length ≤ 40 → X.rf.length = X.evs.length → (X.co.length : Int) = X.locs → (∀ i, i < X.evs.length → EvOk X.locs i (X.evs.getD (i - 1) ev0) (X.evs.getD i ev0)) → (∀ i, i < X.evs.length → RfOk X i) → (∀ i, i < X.co.length → CoOk X i) → RmwOk X → DepsOk X X.data → DepsOk X X.ctrl → DepsOk X X.ctrli → GraphOk X :=
    fun a b c d e f g h i j k l m => ⟨a, b, c, d, e, f, g, h, i, j, k, l, m⟩
  generalize GraphOk X = P at fin
  by_cases c1 : X.locs < 1
  case pos =>
    simp (disch := omega) only [A_xref06_Check, wp, Nat.reduceAdd, Nat.reduceMul, Nat.reduceSub, gl, c1]
    exact ⟨_, rfl, fun h => by cases h⟩
  by_cases c2 : 4 < X.locs
  case pos =>
    simp (disch := omega) only [A_xref06_Check, wp, Nat.reduceAdd, Nat.reduceMul, Nat.reduceSub, gl, c1, c2]
    exact ⟨_, rfl, fun h => by cases h⟩
  by_cases c3 : (X.evs.length : Int) < X.locs
  case pos =>
    simp (disch := omega) only [A_xref06_Check, wp, Nat.reduceAdd, Nat.reduceMul, Nat.reduceSub, gl, c1, c2, c3]
    exact ⟨_, rfl, fun h => by cases h⟩
  by_cases c4 : 40 < (X.evs.length : Int)
  case pos =>
    simp (disch := omega) only [A_xref06_Check, wp, Nat.reduceAdd, Nat.reduceMul, Nat.reduceSub, gl, c1, c2, c3, c4]
    exact ⟨_, rfl, fun h => by cases h⟩
  cases c5 : ((X.rf.length : Int) != (X.evs.length : Int))
  case true =>
    simp (disch := omega) only [A_xref06_Check, wp, Nat.reduceAdd, Nat.reduceMul, Nat.reduceSub, gl, c1, c2, c3, c4, c5]
    exact ⟨_, rfl, fun h => by cases h⟩
  cases c6 : ((X.co.length : Int) != X.locs)
  case true =>
    simp (disch := omega) only [A_xref06_Check, wp, Nat.reduceAdd, Nat.reduceMul, Nat.reduceSub, gl, c1, c2, c3, c4, c5, c6]
    exact ⟨_, rfl, fun h => by cases h⟩
  have hrl : (X.rf.length : Int) = X.evs.length := by simpa using c5
  have hcl : (X.co.length : Int) = X.locs := by simpa using c6
  have fin := fin (by omega) (by omega) (by omega) (by omega) (by omega) hcl
  simp (disch := omega) only [A_xref06_Check, wp, Nat.reduceAdd, Nat.reduceMul, Nat.reduceSub, gl, c1, c2, c3, c4, c5, c6]
  refine blk_cutR (fun e g => e 1 = .mp 0 0 ∧ g.hp 0 = some (.cells (grC X) false) ∧ 0 < g.nx ∧ (∀ i, i < X.evs.length → EvOk X.locs i (X.evs.getD (i - 1) ev0) (X.evs.getD i ev0)) ∧ ∀ i, i < X.evs.length → RfOk X i) ?_ ?_
  · refine W_loop (fun q e g => ∃ k : Nat, q = X.evs.length - k ∧ k ≤ X.evs.length ∧ e 1 = .mp 0 0 ∧ e 3 = .i .i64 X.evs.length ∧ e 4 = .i .i64 k ∧ g.hp 0 = some (.cells (grC X) false) ∧ 0 < g.nx ∧ (∀ i, i < k → EvOk X.locs i (X.evs.getD (i - 1) ev0) (X.evs.getD i ev0)) ∧ ∀ i, i < k → RfOk X i) X.evs.length ?_ ?_
    · refine ⟨0, rfl, Nat.zero_le _, ?_⟩
      simp (disch := omega) only [wp, Nat.reduceAdd, Nat.reduceMul, Nat.reduceSub]
      exact ⟨rfl, by first | omega | (dsimp only; omega), fun i hi => by omega, fun i hi => by omega⟩
    · rintro q e g ⟨k, rfl, hk, e1, e3, e4, hg, hnx, hev, hrf⟩
      by_cases hk' : k < X.evs.length
      · have hk1 : (k : Int) < X.evs.length := by omega
        have hwk := succ_wrap (k := k) (by omega)
        obtain ⟨b1, h1, p1⟩ := sp_event h63 hk' (by omega) (by omega)
        obtain ⟨b2, h2, p2⟩ := sp_rfC h64 hk' (by omega)
        cases b1
        case false =>
          simp (disch := omega) only [wp, Nat.reduceAdd, Nat.reduceMul, Nat.reduceSub, gl, e1, e3, e4, hg, hk1, h1]
          exact ⟨_, rfl, fun h => by cases h⟩
        cases b2
        case false =>
          simp (disch := omega) only [wp, Nat.reduceAdd, Nat.reduceMul, Nat.reduceSub, gl, e1, e3, e4, hg, hk1, h1, h2]
          exact ⟨_, rfl, fun h => by cases h⟩
        have p1 := p1 rfl
        have p2 := p2 rfl
        simp (disch := omega) only [wp, Nat.reduceAdd, Nat.reduceMul, Nat.reduceSub, gl, e1, e3, e4, hg, hk1, h1, h2, hwk]
        refine ⟨X.evs.length - (k + 1), by omega, k + 1, rfl, by omega, rfl, by first | omega | (dsimp only; omega), fun i hi => ?_, fun i hi => ?_⟩
        · by_cases hik : i = k
          · subst hik; exact p1
          · exact hev i (by omega)
        · by_cases hik : i = k
          · subst hik; exact p2
          · exact hrf i (by omega)
      · obtain rfl : k = X.evs.length := by omega
        have hk1 : ¬ ((X.evs.length : Int) < X.evs.length) := by omega
        simp (disch := omega) only [wp, Nat.reduceAdd, Nat.reduceMul, Nat.reduceSub, gl, e1, e3, e4, hg, hk1]
        exact ⟨by first | omega | (dsimp only; omega), hev, hrf⟩
  · rintro e g ⟨e1, hg, hnx, hev, hrf⟩
    have fin := fin hev hrf
    simp (disch := omega) only [wp, Nat.reduceAdd, Nat.reduceMul, Nat.reduceSub, e1]
    refine blk_cutR (fun e g => e 1 = .mp 0 0 ∧ g.hp 0 = some (.cells (grC X) false) ∧ 0 < g.nx ∧ ∀ i, i < X.co.length → CoOk X i) ?_ ?_
    · refine W_loop (fun q e g => ∃ k : Nat, q = X.co.length - k ∧ k ≤ X.co.length ∧ e 1 = .mp 0 0 ∧ e 5 = .i .i64 k ∧ g.hp 0 = some (.cells (grC X) false) ∧ 0 < g.nx ∧ ∀ i, i < k → CoOk X i) X.co.length ?_ ?_
      · refine ⟨0, rfl, Nat.zero_le _, ?_⟩
        simp (disch := omega) only [wp, Nat.reduceAdd, Nat.reduceMul, Nat.reduceSub, e1]
        exact ⟨rfl, hg, by first | omega | (dsimp only; omega), fun i hi => by omega⟩
      · rintro q e g ⟨k, rfl, hk, e1, e5, hg, hnx, hco⟩
        by_cases hk' : k < X.co.length
        · have hk1 : (k : Int) < X.locs := by omega
          have hwk := succ_wrap (k := k) (by omega)
          obtain ⟨b1, h1, p1⟩ := sp_coC h65 hk' (by have := hX.evs; omega) (by
            have hm : X.co.getD k [] ∈ X.co := by
              rw [List.getD_eq_getElem?_getD, List.getElem?_eq_getElem hk']; exact List.getElem_mem hk'
            have := hX.cos _ hm; omega)
          cases b1
          case false =>
            simp (disch := omega) only [wp, Nat.reduceAdd, Nat.reduceMul, Nat.reduceSub, gl, e1, e5, hg, hk1, h1]
            exact ⟨_, rfl, fun h => by cases h⟩
          have p1 := p1 rfl
          simp (disch := omega) only [wp, Nat.reduceAdd, Nat.reduceMul, Nat.reduceSub, gl, e1, e5, hg, hk1, h1, hwk]
          refine ⟨X.co.length - (k + 1), by omega, k + 1, rfl, by omega, rfl, by first | omega | (dsimp only; omega), fun i hi => ?_⟩
          by_cases hik : i = k
          · subst hik; exact p1
          · exact hco i (by omega)
        · obtain rfl : k = X.co.length := by omega
          have hk1 : ¬ ((X.co.length : Int) < X.locs) := by omega
          simp (disch := omega) only [wp, Nat.reduceAdd, Nat.reduceMul, Nat.reduceSub, gl, e1, e5, hg, hk1]
          exact ⟨by first | omega | (dsimp only; omega), hco⟩
    · rintro e g ⟨e1, hg, hnx, hco⟩
      have fin := fin hco
      obtain ⟨b1, h1, p1⟩ := sp_rmw h66 h82 (X := X) (by omega) (by have := hX.rmw; omega)
      obtain ⟨b2, h2, p2⟩ := sp_deps h67 h82 X X.data .non (by have := hX.data; omega)
      obtain ⟨b3, h3, p3⟩ := sp_deps h67 h82 X X.ctrl .non (by have := hX.ctrl; omega)
      obtain ⟨b4, h4, p4⟩ := sp_deps h67 h82 X X.ctrli .non (by have := hX.ctrli; omega)
      cases b1
      case false =>
        simp (disch := omega) only [wp, Nat.reduceAdd, Nat.reduceMul, Nat.reduceSub, gl, e1, hg, h1]
        exact ⟨_, rfl, fun h => by cases h⟩
      cases b2
      case false =>
        simp (disch := omega) only [wp, Nat.reduceAdd, Nat.reduceMul, Nat.reduceSub, gl, e1, hg, h1, h2]
        exact ⟨_, rfl, fun h => by cases h⟩
      cases b3
      case false =>
        simp (disch := omega) only [wp, Nat.reduceAdd, Nat.reduceMul, Nat.reduceSub, gl, e1, hg, h1, h2, h3]
        exact ⟨_, rfl, fun h => by cases h⟩
      simp (disch := omega) only [wp, Nat.reduceAdd, Nat.reduceMul, Nat.reduceSub, gl, e1, hg, h1, h2, h3, h4]
      exact ⟨_, rfl, fun h => fin (p1 rfl) (p2 rfl) (p3 rfl) (p4 h)⟩
end Go.Ab
end
section
set_option linter.unusedVariables false
set_option linter.unusedSimpArgs false
namespace Go.Ab
variable {F : Funs}
def allN (n : Nat) (p : Nat → Bool) : Bool := (List.range n).all p
theorem allN_iff {n : Nat} {p : Nat → Bool} : allN n p = true ↔ ∀ i, i < n → p i = true := by
  unfold allN
  rw [List.all_eq_true]
  exact ⟨fun h i hi => h i (List.mem_range.2 hi), fun h i hi => h i (List.mem_range.1 hi)⟩
theorem allN_t {n : Nat} {p : Nat → Bool} (h : ∀ i, i < n → p i = true) : allN n p = true := allN_iff.2 h
theorem allN_f {n : Nat} {p : Nat → Bool} {k : Nat} (hk : k < n) (h : p k = false) : allN n p = false := by
  cases c : allN n p with
  | false => rfl
  | true => rw [allN_iff.1 c k hk] at h; cases h
def cmpI (a b : Int) : Int := if a < b then -1 else if b < a then 1 else 0
def ordP (p q : Int × Int) : Int := if cmpI p.1 q.1 != 0 then cmpI p.1 q.1 else cmpI p.2 q.2
def gEv (locs : Int) (e : Ev) : Bool :=
  if e.kd == 1 then (decide (0 ≤ e.lc) && decide (e.lc < locs)) && (e.md == 0 || e.md == 1)
  else if e.kd == 2 then (decide (0 ≤ e.lc) && decide (e.lc < locs)) && (e.md == 0 || e.md == 2)
  else e.kd == 3 && decide (1 ≤ e.md) && decide (e.md ≤ 4) && e.lc == 0 && e.vl == 0 && !e.ex
def gWr (X : Gr) (i loc : Int) : Bool := decide (0 ≤ i) && decide (i < X.evs.length) && (X.evs.getD i.toNat ev0).kd == 2 && (X.evs.getD i.toNat ev0).lc == loc
def mayD (a b : Ev) : Bool := a.kd == 1 && a.th == b.th
def mayR (a b : Ev) : Bool := a.kd == 1 && b.kd == 2 && a.lc == b.lc && a.ex && b.ex && a.th == b.th
section
variable (pc : Pk_cmp F)
include pc
set_option maxRecDepth 100000 in
theorem sg_nan (a : Int) : pureS F 266 [.i .i64 a] = some (.b false) := by
  refine pure_of pc.cmp_isNaN_int ?_
  have h : (a != a) = false := by simp
  simp (disch := omega) only [A_cmp_isNaN_int, wp, Nat.reduceAdd, Nat.reduceMul, Nat.reduceSub, h]
set_option maxRecDepth 100000 in
theorem sg_cmp (a b : Int) : pureS F 248 [.i .i64 a, .i .i64 b] = some (.i .i64 (cmpI a b)) := by
  refine pure_of pc.cmp_Compare_int ?_
  unfold cmpI
  by_cases c1 : a < b
  · simp (disch := omega) only [A_cmp_Compare_int, wp, Nat.reduceAdd, Nat.reduceMul, Nat.reduceSub, sg_nan pc, c1, if_true]
  · by_cases c2 : b < a
    · simp (disch := omega) only [A_cmp_Compare_int, wp, Nat.reduceAdd, Nat.reduceMul, Nat.reduceSub, sg_nan pc, c1, c2, if_true, if_false]
    · simp (disch := omega) only [A_cmp_Compare_int, wp, Nat.reduceAdd, Nat.reduceMul, Nat.reduceSub, sg_nan pc, c1, c2, if_false]
set_option maxRecDepth 100000 in
theorem sg_or (a b : Int) : pureS F 249 [.sl [.i .i64 a, .i .i64 b] 2 .non] = some (.i .i64 (if a != 0 then a else b)) := by
  refine pure_of pc.cmp_Or_int ?_
  simp (disch := omega) only [A_cmp_Or_int, wp, Nat.reduceAdd, Nat.reduceMul, Nat.reduceSub]
  have p0 : part (List.drop (0 * 1) [AV.i .i64 a, AV.i .i64 b]) 0 none = some (.i .i64 a) := rfl
  have p1 : part (List.drop (1 * 1) [AV.i .i64 a, AV.i .i64 b]) 0 none = some (.i .i64 b) := rfl
  have w0 := succ_wrap (k := 0) (by omega)
  have w1 := succ_wrap (k := 1) (by omega)
  refine W_loop (fun q e g => ∃ k : Nat, q = 2 - k ∧ k ≤ 2 ∧ e 3 = .i .i64 0 ∧ e 6 = .sl [.i .i64 a, .i .i64 b] 2 .non ∧ e 7 = .i .i64 2 ∧ e 8 = .i .i64 k ∧ (1 ≤ k → a = 0) ∧ (2 ≤ k → b = 0)) 2 ?_ ?_
  · refine ⟨0, rfl, by omega, ?_⟩
    simp (disch := omega) only [wp, Nat.reduceAdd, Nat.reduceMul, Nat.reduceSub]
    exact ⟨rfl, rfl, fun h => by omega, fun h => by omega⟩
  · rintro q e g ⟨k, rfl, hk, e3, e6, e7, e8, ha, hb'⟩
    by_cases hk' : k < 2
    · have hk1 : (k : Int) < 2 := by omega
      have hwk := succ_wrap (k := k) (by omega)
      by_cases k0 : k = 0
      · subst k0
        cases c : (a != 0)
        · simp (disch := omega) only [wp, Nat.reduceAdd, Nat.reduceMul, Nat.reduceSub, e3, e6, e7, e8, hk1, p0, c, hwk]
          exact ⟨1, by omega, 1, rfl, by omega, rfl, fun _ => by simpa using c, fun h => by omega⟩
        · simp (disch := omega) only [wp, Nat.reduceAdd, Nat.reduceMul, Nat.reduceSub, e3, e6, e7, e8, hk1, p0, c]
          rfl
      · obtain rfl : k = 1 := by omega
        have ha := ha (by omega)
        subst ha
        cases c : (b != 0)
        · simp (disch := omega) only [wp, Nat.reduceAdd, Nat.reduceMul, Nat.reduceSub, e3, e6, e7, e8, hk1, p1, c, hwk]
          exact ⟨0, by omega, 2, rfl, by omega, rfl, fun _ => trivial, fun h => by simpa using c⟩
        · simp (disch := omega) only [wp, Nat.reduceAdd, Nat.reduceMul, Nat.reduceSub, e3, e6, e7, e8, hk1, p1, c]
          rfl
    · obtain rfl : k = 2 := by omega
      have hk1 : ¬ (((2 : Nat) : Int) < 2) := by omega
      have ha := ha (by omega)
      have hb' := hb' (by omega)
      subst ha hb'
      simp (disch := omega) only [wp, Nat.reduceAdd, Nat.reduceMul, Nat.reduceSub, e3, e6, e7, e8, hk1]
      rfl
end
set_option maxRecDepth 100000 in
set_option maxHeartbeats 4000000 in
theorem sg_event (h236 : F 236 = some A_graph_event) (e : Ev) (locs : Int) : pureS F 236 [.agg (evC e), .i .i64 locs] = some (.b (gEv locs e)) := by
  refine pure_of h236 ?_
  obtain ⟨th, kd, md, lc, vl, ex⟩ := e
  have d0 : (evC ⟨th, kd, md, lc, vl, ex⟩) = [.i .i64 th, .i .i64 kd, .i .i64 md, .i .i64 lc, .i .i64 vl, .b ex] := rfl
  have fin : gEv locs ⟨th, kd, md, lc, vl, ex⟩ = if kd == 1 then (decide (0 ≤ lc) && decide (lc < locs)) && (md == 0 || md == 1) else if kd == 2 then (decide (0 ≤ lc) && decide (lc < locs)) && (md == 0 || md == 2) else kd == 3 && decide (1 ≤ md) && decide (md ≤ 4) && lc == 0 && vl == 0 && !ex := rfl
  generalize gEv locs ⟨th, kd, md, lc, vl, ex⟩ = R at fin
  simp only [A_graph_event, W_seq]
  refine W_cut (fun e g => e 1 = .i .i64 locs ∧ e 2 = .mp 0 0 ∧ g.hp 0 = some (.cells (evC ⟨th, kd, md, lc, vl, ex⟩) false)) ?_ ?_
  · simp (disch := omega) only [wp, Nat.reduceAdd, Nat.reduceMul, Nat.reduceSub, gl]
  rintro e g ⟨e1, e2, hg⟩
  simp only [W_seq]
  refine W_cut (fun e g => e 2 = .mp 0 0 ∧ e 5 = .b (decide (0 ≤ lc) && decide (lc < locs)) ∧ g.hp 0 = some (.cells (evC ⟨th, kd, md, lc, vl, ex⟩) false)) ?_ ?_
  · by_cases l1 : 0 ≤ lc
    · simp (disch := omega) only [wp, Nat.reduceAdd, Nat.reduceMul, Nat.reduceSub, gl, e1, e2, hg, d0, l1]
    · simp (disch := omega) only [wp, Nat.reduceAdd, Nat.reduceMul, Nat.reduceSub, gl, e1, e2, hg, d0, l1]
  rintro e g ⟨e2, e5, hg⟩
  generalize (decide (0 ≤ lc) && decide (lc < locs)) = at0 at e5 fin
  cases k1 : (kd == 1)
  case true =>
    rw [k1, if_pos rfl] at fin
    cases at0
    · simp (disch := omega) only [wp, Nat.reduceAdd, Nat.reduceMul, Nat.reduceSub, gl, e2, e5, hg, d0, k1, fin]
    · cases m0 : (md == 0)
      · rw [m0] at fin
        simp (disch := omega) only [wp, Nat.reduceAdd, Nat.reduceMul, Nat.reduceSub, gl, e2, e5, hg, d0, k1, m0, fin]
      · rw [m0] at fin
        simp (disch := omega) only [wp, Nat.reduceAdd, Nat.reduceMul, Nat.reduceSub, gl, e2, e5, hg, d0, k1, m0, fin]
  case false =>
    rw [k1, if_neg (by decide)] at fin
    cases k2 : (kd == 2)
    case true =>
      rw [k2, if_pos rfl] at fin
      cases at0
      · simp (disch := omega) only [wp, Nat.reduceAdd, Nat.reduceMul, Nat.reduceSub, gl, e2, e5, hg, d0, k1, k2, fin]
      · cases m0 : (md == 0)
        · rw [m0] at fin
          simp (disch := omega) only [wp, Nat.reduceAdd, Nat.reduceMul, Nat.reduceSub, gl, e2, e5, hg, d0, k1, k2, m0, fin]
        · rw [m0] at fin
          simp (disch := omega) only [wp, Nat.reduceAdd, Nat.reduceMul, Nat.reduceSub, gl, e2, e5, hg, d0, k1, k2, m0, fin]
    case false =>
      rw [k2, if_neg (by decide)] at fin
      cases k3 : (kd == 3)
      · rw [k3] at fin
        simp (disch := omega) only [wp, Nat.reduceAdd, Nat.reduceMul, Nat.reduceSub, gl, e2, e5, hg, d0, k1, k2, k3, fin]
      rw [k3] at fin
      by_cases m1 : 1 ≤ md
      case neg => simp (disch := omega) only [wp, Nat.reduceAdd, Nat.reduceMul, Nat.reduceSub, gl, e2, e5, hg, d0, k1, k2, k3, m1, fin]
      by_cases m4 : md ≤ 4
      case neg => simp (disch := omega) only [wp, Nat.reduceAdd, Nat.reduceMul, Nat.reduceSub, gl, e2, e5, hg, d0, k1, k2, k3, m1, m4, fin]
      cases a3 : (lc == 0)
      · rw [a3] at fin
        simp (disch := omega) only [wp, Nat.reduceAdd, Nat.reduceMul, Nat.reduceSub, gl, e2, e5, hg, d0, k1, k2, k3, m1, m4, a3, fin]
      cases a4 : (vl == 0)
      · rw [a3, a4] at fin
        simp (disch := omega) only [wp, Nat.reduceAdd, Nat.reduceMul, Nat.reduceSub, gl, e2, e5, hg, d0, k1, k2, k3, m1, m4, a3, a4, fin]
      rw [a3, a4] at fin
      simp (disch := omega) only [wp, Nat.reduceAdd, Nat.reduceMul, Nat.reduceSub, gl, e2, e5, hg, d0, k1, k2, k3, m1, m4, a3, a4, fin]
set_option maxRecDepth 100000 in
set_option maxHeartbeats 4000000 in
theorem sg_write (h237 : F 237 = some A_graph_write) (X : Gr) (i loc : Int) : pureS F 237 [.agg (grC X), .i .i64 i, .i .i64 loc] = some (.b (gWr X i loc)) := by
  refine pure_of h237 ?_
  unfold gWr
  by_cases c1 : 0 ≤ i
  case neg => simp (disch := omega) only [A_graph_write, wp, Nat.reduceAdd, Nat.reduceMul, Nat.reduceSub, gl, c1]
  by_cases c2 : i < X.evs.length
  case neg => simp (disch := omega) only [A_graph_write, wp, Nat.reduceAdd, Nat.reduceMul, Nat.reduceSub, gl, c1, c2]
  have ka := ev_kd_at (l := X.evs) (k := i.toNat) (by omega)
  have la := ev_lc_at (l := X.evs) (k := i.toNat) (by omega)
  have da : (List.drop (i.toNat * 6) (evsC X.evs)).length = X.evs.length * 6 - i.toNat * 6 := by rw [List.length_drop, evsC_len]
  cases c3 : ((X.evs.getD i.toNat ev0).kd == 2)
  · simp (disch := omega) only [A_graph_write, wp, Nat.reduceAdd, Nat.reduceMul, Nat.reduceSub, gl, c1, c2, ka, la, da, c3]
  · simp (disch := omega) only [A_graph_write, wp, Nat.reduceAdd, Nat.reduceMul, Nat.reduceSub, gl, c1, c2, ka, la, da, c3]
set_option maxRecDepth 100000 in
theorem sg_mayD (h191 : F 191 = some A_graph_Check_1) (a b : Ev) : pureS F 191 [.agg (evC a), .agg (evC b)] = some (.b (mayD a b)) := by
  refine pure_of h191 ?_
  unfold mayD
  cases c1 : (a.kd == 1)
  · simp (disch := omega) only [A_graph_Check_1, wp, Nat.reduceAdd, Nat.reduceMul, Nat.reduceSub, gl, c1]
  · simp (disch := omega) only [A_graph_Check_1, wp, Nat.reduceAdd, Nat.reduceMul, Nat.reduceSub, gl, c1]
set_option maxRecDepth 100000 in
set_option maxHeartbeats 4000000 in
theorem sg_mayR (h238 : F 238 = some A_graph_rmw_1) (a b : Ev) : pureS F 238 [.agg (evC a), .agg (evC b)] = some (.b (mayR a b)) := by
  refine pure_of h238 ?_
  unfold mayR
  cases c1 : (a.kd == 1)
  · simp (disch := omega) only [A_graph_rmw_1, wp, Nat.reduceAdd, Nat.reduceMul, Nat.reduceSub, gl, c1]
  cases c2 : (b.kd == 2)
  · simp (disch := omega) only [A_graph_rmw_1, wp, Nat.reduceAdd, Nat.reduceMul, Nat.reduceSub, gl, c1, c2]
  cases c3 : (a.lc == b.lc)
  · simp (disch := omega) only [A_graph_rmw_1, wp, Nat.reduceAdd, Nat.reduceMul, Nat.reduceSub, gl, c1, c2, c3]
  cases c4 : a.ex
  · simp (disch := omega) only [A_graph_rmw_1, wp, Nat.reduceAdd, Nat.reduceMul, Nat.reduceSub, gl, c1, c2, c3, c4]
  cases c5 : b.ex
  · simp (disch := omega) only [A_graph_rmw_1, wp, Nat.reduceAdd, Nat.reduceMul, Nat.reduceSub, gl, c1, c2, c3, c4, c5]
  simp (disch := omega) only [A_graph_rmw_1, wp, Nat.reduceAdd, Nat.reduceMul, Nat.reduceSub, gl, c1, c2, c3, c4, c5]
set_option maxRecDepth 100000 in
theorem sg_order (pc : Pk_cmp F) (h239 : F 239 = some A_graph_order) (p q : Int × Int) : pureS F 239 [.agg [.i .i64 p.1, .i .i64 p.2], .agg [.i .i64 q.1, .i .i64 q.2]] = some (.i .i64 (ordP p q)) := by
  refine pure_of h239 ?_
  simp (disch := omega) only [A_graph_order, wp, Nat.reduceAdd, Nat.reduceMul, Nat.reduceSub, gl, sg_cmp pc, sg_or pc]
  rfl
end Go.Ab
end
section
set_option linter.unusedVariables false
set_option linter.unusedSimpArgs false
namespace Go.Ab
variable {F : Funs}
def evIs (a b : Ev) : Bool := a.th == b.th && (a.kd == b.kd && (a.md == b.md && (a.lc == b.lc && (a.vl == b.vl && (a.ex == b.ex && true)))))
def gFirst (X : Gr) : Bool := allN X.locs.toNat fun i => evIs (X.evs.getD i ev0) ⟨0, 2, 0, i, 0, false⟩
set_option maxRecDepth 100000 in
set_option maxHeartbeats 4000000 in
theorem sg_first (h186 : F 186 = some A_graph_first) {X : Gr} (h0 : 0 ≤ X.locs) (hl : X.locs ≤ X.evs.length) (hn : X.evs.length ≤ 1000) : pureS F 186 [.agg (grC X)] = some (.b (gFirst X)) := by
  refine pure_of h186 ?_
  have finT : (∀ i, i < X.locs.toNat → evIs (X.evs.getD i ev0) ⟨0, 2, 0, i, 0, false⟩ = true) → gFirst X = true := allN_t
  have finF : ∀ k, k < X.locs.toNat → evIs (X.evs.getD k ev0) ⟨0, 2, 0, k, 0, false⟩ = false → gFirst X = false := fun k hk h => allN_f hk h
  generalize gFirst X = R at finT finF
  have r5 : ∀ x : AV, List.replicate 5 x = [x, x, x, x, x] := fun _ => rfl
  simp (disch := omega) only [A_graph_first, wp, Nat.reduceAdd, Nat.reduceMul, Nat.reduceSub, gl]
  refine W_loop (fun q e g => ∃ k : Nat, q = X.locs.toNat - k ∧ k ≤ X.locs.toNat ∧ e 1 = .mp 0 0 ∧ e 5 = .i .i64 X.locs ∧ e 6 = .i .i64 k ∧ g.hp 0 = some (.cells (grC X) false) ∧ 0 < g.nx ∧ ∀ i, i < k → evIs (X.evs.getD i ev0) ⟨0, 2, 0, i, 0, false⟩ = true) X.locs.toNat ?_ ?_
  · refine ⟨0, rfl, Nat.zero_le _, ?_⟩
    simp (disch := omega) only [wp, Nat.reduceAdd, Nat.reduceMul, Nat.reduceSub]
    exact ⟨rfl, by first | omega | (dsimp only; omega), fun i hi => by omega⟩
  · rintro q e g ⟨k, rfl, hk, e1, e5, e6, hg, hnx, hall⟩
    by_cases hk' : k < X.locs.toNat
    · have hk1 : (k : Int) < X.locs := by omega
      have hkn : (k : Int) < X.evs.length := by omega
      have hwk := succ_wrap (k := k) (by omega)
      have hev := ev_part (l := X.evs) (k := k) (by omega)
      have he : aeqa [0, 0, 0, 0, 0, 1] (.agg (evC (X.evs.getD k ev0))) (.agg [.i .i64 0, .i .i64 2, .i .i64 0, .i .i64 k, .i .i64 0, .b false]) = some (evIs (X.evs.getD k ev0) ⟨0, 2, 0, k, 0, false⟩) := rfl
      cases c : evIs (X.evs.getD k ev0) ⟨0, 2, 0, k, 0, false⟩
      · obtain rfl := finF k hk' c
        rw [c] at he
        simp (disch := omega) only [wp, Nat.reduceAdd, Nat.reduceMul, Nat.reduceSub, gl, e1, e5, e6, hg, hk1, hkn, hev, r5, he]
      · have hc := c
        rw [c] at he
        simp (disch := omega) only [wp, Nat.reduceAdd, Nat.reduceMul, Nat.reduceSub, gl, e1, e5, e6, hg, hk1, hkn, hev, r5, he, hwk]
        refine ⟨X.locs.toNat - (k + 1), by omega, k + 1, rfl, by omega, rfl, by first | omega | (dsimp only; omega), fun i hi => ?_⟩
        by_cases hik : i = k
        · subst hik; exact hc
        · exact hall i (by omega)
    · have hk1 : ¬ ((k : Int) < X.locs) := by omega
      obtain rfl : k = X.locs.toNat := by omega
      obtain rfl := finT hall
      simp (disch := omega) only [wp, Nat.reduceAdd, Nat.reduceMul, Nat.reduceSub, gl, e1, e5, e6, hg, hk1]
theorem o_slice' {call al lo' id e g} (esz : Nat) (x : Opd) (lo hi mx : Option Opd) : opE call al lo' id (.slice esz x lo hi mx) e g = vSlice esz (x.ev e) (evo e lo) (evo e hi) (evo e mx) g := rfl
theorem vSlice_lo {esz : Nat} {cs : List AV} {n : Nat} {lo : Int} {g : G} (h0 : 0 ≤ lo) (h : lo ≤ n) : vSlice esz (.sl cs n .non) (some (.i .i64 lo)) none none g = some (.sl ((cs.drop (lo.toNat * esz)).take ((n - lo.toNat) * esz)) (n - lo.toNat) .non, g) := by
  unfold vSlice
  have e : bnd n none = some (n : Int) := rfl
  have e2 : bnd 0 (some (.i .i64 lo)) = some lo := rfl
  have c : 0 ≤ lo ∧ lo ≤ (n : Int) ∧ (n : Int) ≤ n := ⟨h0, h, by omega⟩
  simp only [e, e2, if_pos c, Int.toNat_natCast]
  rfl
theorem evsC_drop : ∀ (l : List Ev) (k : Nat), (evsC l).drop (k * 6) = evsC (l.drop k)
  | l, 0 => by simp
  | [], k + 1 => by simp [evsC]
  | x :: l, k + 1 => by
    have e : (k + 1) * 6 = (evC x).length + k * 6 := by show _ = 6 + k * 6; omega
    rw [List.drop_succ_cons, ← evsC_drop l k, e]
    show List.drop _ (evC x ++ evsC l) = _
    rw [List.drop_length_add_append]
theorem evs_tail {l : List Ev} {lo : Int} (h0 : 0 ≤ lo) (h : lo ≤ l.length) : ((evsC l).drop (lo.toNat * 6)).take ((l.length - lo.toNat) * 6) = evsC (l.drop lo.toNat) := by
  rw [evsC_drop, List.take_of_length_le]
  rw [evsC_len, List.length_drop]
  exact Nat.le_refl _
def thrWas (D : List Ev) (k : Nat) : Int := if k = 0 then 1 else (D.getD (k - 1) ev0).th
def thrK (locs : Int) (D : List Ev) (k : Nat) : Bool := !decide ((D.getD k ev0).th < thrWas D k) && (!decide (4 < (D.getD k ev0).th) && gEv locs (D.getD k ev0))
def gThr (X : Gr) : Bool := allN (X.evs.length - X.locs.toNat) (thrK X.locs (X.evs.drop X.locs.toNat))
set_option maxRecDepth 100000 in
set_option maxHeartbeats 4000000 in
theorem sg_threads (h187 : F 187 = some A_graph_threads) (h236 : F 236 = some A_graph_event) {X : Gr} (h0 : 0 ≤ X.locs) (hl : X.locs ≤ X.evs.length) (hn : X.evs.length ≤ 1000) : pureS F 187 [.agg (grC X)] = some (.b (gThr X)) := by
  refine pure_of h187 ?_
  have hD : (X.evs.drop X.locs.toNat).length = X.evs.length - X.locs.toNat := List.length_drop ..
  have finT : (∀ i, i < X.evs.length - X.locs.toNat → thrK X.locs (X.evs.drop X.locs.toNat) i = true) → gThr X = true := allN_t
  have finF : ∀ k, k < X.evs.length - X.locs.toNat → thrK X.locs (X.evs.drop X.locs.toNat) k = false → gThr X = false := fun k hk h => allN_f hk h
  generalize gThr X = R at finT finF
  have hs : ∀ g : G, vSlice 6 (.sl (evsC X.evs) X.evs.length .non) (some (.i .i64 X.locs)) none none g = some (.sl (evsC (X.evs.drop X.locs.toNat)) (X.evs.drop X.locs.toNat).length .non, g) := fun g => by
    rw [vSlice_lo h0 hl, evs_tail h0 hl, hD]
  rw [← hD] at finT finF
  simp (disch := omega) only [A_graph_threads, wp, Nat.reduceAdd, Nat.reduceMul, Nat.reduceSub, gl, o_slice', evo, Option.map_some, Option.map_none, hs]
  generalize X.evs.drop X.locs.toNat = D at finT finF hD
  have s6 : ∀ b1 b2 b3 b4 b5 b6 c1 c2 c3 c4 c5 c6 : AV, splice [b1, b2, b3, b4, b5, b6] 0 [c1, c2, c3, c4, c5, c6] = [c1, c2, c3, c4, c5, c6] := fun _ _ _ _ _ _ _ _ _ _ _ _ => rfl
  have r5 : ∀ x : AV, List.replicate 5 x = [x, x, x, x, x] := fun _ => rfl
  refine W_loop (fun q e g => ∃ k : Nat, q = D.length - k ∧ k ≤ D.length ∧ e 1 = .mp 0 0 ∧ e 3 = .i .i64 (thrWas D k) ∧ e 10 = .sl (evsC D) D.length .non ∧ e 11 = .i .i64 D.length ∧ e 12 = .i .i64 k ∧ g.hp 0 = some (.cells (grC X) false) ∧ 0 < g.nx ∧ ∀ i, i < k → thrK X.locs D i = true) D.length ?_ ?_
  · refine ⟨0, rfl, Nat.zero_le _, ?_⟩
    simp (disch := omega) only [wp, Nat.reduceAdd, Nat.reduceMul, Nat.reduceSub]
    exact ⟨rfl, rfl, by first | omega | (dsimp only; omega), fun i hi => by omega⟩
  · rintro q e g ⟨k, rfl, hk, e1, e3, e10, e11, e12, hg, hnx, hall⟩
    by_cases hk' : k < D.length
    · have hk1 : (k : Int) < D.length := by omega
      have hwk := succ_wrap (k := k) (by omega)
      have hev := ev_part hk'
      have hK : thrK X.locs D k = (!decide ((D.getD k ev0).th < thrWas D k) && (!decide (4 < (D.getD k ev0).th) && gEv X.locs (D.getD k ev0))) := rfl
      have hW : thrWas D (k + 1) = (D.getD k ev0).th := rfl
      have hv := sg_event h236 (D.getD k ev0) X.locs
      have hf := finF k hk'
      rw [hK] at hf
      have hall' : thrK X.locs D k = true → ∀ i, i < k + 1 → thrK X.locs D i = true := by
        intro h i hi
        by_cases hik : i = k
        · subst hik; exact h
        · exact hall i (by omega)
      rw [hK] at hall'
      generalize thrWas D k = was at e3 hf hall'
      have t0 := ev_th (D.getD k ev0)
      generalize D.getD k ev0 = ev at hev hW hv hf hall' t0
      have n1 : 0 ≠ g.nx + 1 + 1 := by omega
      by_cases c1 : ev.th < was
      · obtain rfl := hf (by simp [c1])
        simp (disch := omega) only [wp, Nat.reduceAdd, Nat.reduceMul, Nat.reduceSub, gl, e1, e3, e10, e11, e12, hg, hk1, hev, c1]
      by_cases c2 : 4 < ev.th
      · obtain rfl := hf (by simp [c2])
        simp (disch := omega) only [wp, Nat.reduceAdd, Nat.reduceMul, Nat.reduceSub, gl, e1, e3, e10, e11, e12, hg, hk1, hev, c1, c2]
      cases c3 : gEv X.locs ev
      · rw [c3] at hv
        obtain rfl := hf (by simp [c3])
        simp (disch := omega) only [wp, Nat.reduceAdd, Nat.reduceMul, Nat.reduceSub, gl, e1, e3, e10, e11, e12, hg, hk1, hev, c1, c2, hv]
      · rw [c3] at hv
        have hall' := hall' (by simp [c1, c2, c3])
        simp (disch := omega) only [wp, Nat.reduceAdd, Nat.reduceMul, Nat.reduceSub, gl, e1, e3, e10, e11, e12, hg, hk1, hev, c1, c2, hv, hwk]
        exact ⟨D.length - (k + 1), by omega, k + 1, rfl, by omega, by rw [hW], rfl, by first | omega | (dsimp only; omega), hall'⟩
    · have hk1 : ¬ ((k : Int) < D.length) := by omega
      obtain rfl : k = D.length := by omega
      obtain rfl := finT hall
      simp (disch := omega) only [wp, Nat.reduceAdd, Nat.reduceMul, Nat.reduceSub, gl, e1, e3, e10, e11, e12, hg, hk1]
end Go.Ab
end
section
set_option linter.unusedVariables false
set_option linter.unusedSimpArgs false
namespace Go.Ab
variable {F : Funs}
def rfK (X : Gr) (i : Nat) : Bool := !((X.evs.getD i ev0).kd != 1 && X.rf.getD i 0 != -1) && !((X.evs.getD i ev0).kd == 1 && (!gWr X (X.rf.getD i 0) (X.evs.getD i ev0).lc || (X.evs.getD (X.rf.getD i 0).toNat ev0).vl != (X.evs.getD i ev0).vl))
def gRf (X : Gr) : Bool := ((X.rf.length : Int) == X.evs.length) && allN X.evs.length (rfK X)
theorem gWr_in {X : Gr} {i loc : Int} (h : gWr X i loc = true) : 0 ≤ i ∧ i < X.evs.length := by
  unfold gWr at h
  simp only [Bool.and_eq_true, decide_eq_true_eq] at h
  exact ⟨h.1.1.1, h.1.1.2⟩
set_option maxRecDepth 100000 in
set_option maxHeartbeats 4000000 in
theorem sg_rf (h188 : F 188 = some A_graph_rf) (h237 : F 237 = some A_graph_write) {X : Gr} (hn : X.evs.length ≤ 1000) : pureS F 188 [.agg (grC X)] = some (.b (gRf X)) := by
  refine pure_of h188 ?_
  have hR : gRf X = (((X.rf.length : Int) == X.evs.length) && allN X.evs.length (rfK X)) := rfl
  cases c0 : ((X.rf.length : Int) == (X.evs.length : Int))
  · rw [c0] at hR
    have c0' : ((X.rf.length : Int) != (X.evs.length : Int)) = true := by unfold bne; rw [c0]; rfl
    rw [hR]
    simp (disch := omega) only [A_graph_rf, wp, Nat.reduceAdd, Nat.reduceMul, Nat.reduceSub, gl, c0']
  rw [c0, Bool.true_and] at hR
  have c0' : ((X.rf.length : Int) != (X.evs.length : Int)) = false := by unfold bne; rw [c0]; rfl
  have hrl : X.rf.length = X.evs.length := by have := of_decide_eq_true (p := (X.rf.length : Int) = X.evs.length) (by simpa using c0); omega
  have finT : (∀ i, i < X.evs.length → rfK X i = true) → gRf X = true := fun h => by rw [hR]; exact allN_t h
  have finF : ∀ k, k < X.evs.length → rfK X k = false → gRf X = false := fun k hk h => by rw [hR]; exact allN_f hk h
  clear hR
  generalize gRf X = R at finT finF
  have r5 : ∀ x : AV, List.replicate 5 x = [x, x, x, x, x] := fun _ => rfl
  simp (disch := omega) only [A_graph_rf, wp, Nat.reduceAdd, Nat.reduceMul, Nat.reduceSub, gl, c0']
  refine W_loop (fun q e g => ∃ k : Nat, q = X.evs.length - k ∧ k ≤ X.evs.length ∧ e 1 = .mp 0 0 ∧ e 14 = .sl (evsC X.evs) X.evs.length .non ∧ e 15 = .i .i64 X.evs.length ∧ e 16 = .i .i64 k ∧ g.hp 0 = some (.cells (grC X) false) ∧ 0 < g.nx ∧ ∀ i, i < k → rfK X i = true) X.evs.length ?_ ?_
  · refine ⟨0, rfl, Nat.zero_le _, ?_⟩
    simp (disch := omega) only [wp, Nat.reduceAdd, Nat.reduceMul, Nat.reduceSub]
    exact ⟨rfl, by first | omega | (dsimp only; omega), fun i hi => by omega⟩
  · rintro q e g ⟨k, rfl, hk, e1, e14, e15, e16, hg, hnx, hall⟩
    by_cases hk' : k < X.evs.length
    · have hk1 : (k : Int) < X.evs.length := by omega
      have hkr : (k : Int) < X.rf.length := by omega
      have hwk := succ_wrap (k := k) (by omega)
      have hev := ev_part hk'
      have hrf := ints_part (l := X.rf) (k := k) (by omega)
      have hK : rfK X k = (!((X.evs.getD k ev0).kd != 1 && X.rf.getD k 0 != -1) && !((X.evs.getD k ev0).kd == 1 && (!gWr X (X.rf.getD k 0) (X.evs.getD k ev0).lc || (X.evs.getD (X.rf.getD k 0).toNat ev0).vl != (X.evs.getD k ev0).vl))) := rfl
      have hf := finF k hk'
      rw [hK] at hf
      have hall' : rfK X k = true → ∀ i, i < k + 1 → rfK X i = true := by
        intro h i hi
        by_cases hik : i = k
        · subst hik; exact h
        · exact hall i (by omega)
      rw [hK] at hall'
      have hw := sg_write h237 X (X.rf.getD k 0) (X.evs.getD k ev0).lc
      have hin := gWr_in (X := X) (i := X.rf.getD k 0) (loc := (X.evs.getD k ev0).lc)
      generalize X.rf.getD k 0 = w at hrf hf hall' hw hin
      have n1 : 0 ≠ g.nx + 2 + 1 := by omega
      cases c1 : ((X.evs.getD k ev0).kd == 1)
      · have c1' : ((X.evs.getD k ev0).kd != 1) = true := by unfold bne; rw [c1]; rfl
        rw [c1, c1'] at hf hall'
        generalize X.evs.getD k ev0 = ev at hev hw c1 c1'
        cases c2 : (w != -1)
        · rw [c2] at hall'
          have hall' := hall' rfl
          simp (disch := omega) only [wp, Nat.reduceAdd, Nat.reduceMul, Nat.reduceSub, gl, e1, e14, e15, e16, hg, hk1, hkr, hev, hrf, c1, c1', c2, hwk]
          exact ⟨X.evs.length - (k + 1), by omega, k + 1, rfl, by omega, rfl, by first | omega | (dsimp only; omega), hall'⟩
        · rw [c2] at hf
          obtain rfl := hf rfl
          simp (disch := omega) only [wp, Nat.reduceAdd, Nat.reduceMul, Nat.reduceSub, gl, e1, e14, e15, e16, hg, hk1, hkr, hev, hrf, c1, c1', c2]
      · have c1' : ((X.evs.getD k ev0).kd != 1) = false := by unfold bne; rw [c1]; rfl
        rw [c1, c1'] at hf hall'
        generalize X.evs.getD k ev0 = ev at hev hw c1 c1' hf hall' hin
        cases c2 : gWr X w ev.lc
        · rw [c2] at hf hw
          obtain rfl := hf rfl
          simp (disch := omega) only [wp, Nat.reduceAdd, Nat.reduceMul, Nat.reduceSub, gl, e1, e14, e15, e16, hg, hk1, hkr, hev, hrf, c1, c1', hw]
        · rw [c2] at hf hw hall'
          obtain ⟨w0, w1⟩ := hin c2
          have va := ev_vl_at (l := X.evs) (k := w.toNat) (by omega)
          have da : (List.drop (w.toNat * 6) (evsC X.evs)).length = X.evs.length * 6 - w.toNat * 6 := by rw [List.length_drop, evsC_len]
          cases c3 : ((X.evs.getD w.toNat ev0).vl != ev.vl)
          · rw [c3] at hall'
            have hall' := hall' rfl
            simp (disch := omega) only [wp, Nat.reduceAdd, Nat.reduceMul, Nat.reduceSub, gl, e1, e14, e15, e16, hg, hk1, hkr, hev, hrf, c1, c1', hw, w0, w1, va, da, c3, hwk]
            exact ⟨X.evs.length - (k + 1), by omega, k + 1, rfl, by omega, rfl, by first | omega | (dsimp only; omega), hall'⟩
          · rw [c3] at hf
            obtain rfl := hf rfl
            simp (disch := omega) only [wp, Nat.reduceAdd, Nat.reduceMul, Nat.reduceSub, gl, e1, e14, e15, e16, hg, hk1, hkr, hev, hrf, c1, c1', hw, w0, w1, va, da, c3]
    · have hk1 : ¬ ((k : Int) < X.evs.length) := by omega
      obtain rfl : k = X.evs.length := by omega
      obtain rfl := finT hall
      simp (disch := omega) only [wp, Nat.reduceAdd, Nat.reduceMul, Nat.reduceSub, gl, e1, e14, e15, e16, hg, hk1]
end Go.Ab
end
section
set_option linter.unusedVariables false
set_option linter.unusedSimpArgs false
namespace Go.Ab
variable {F : Funs}
def lsK (X : Gr) (may : Ev → Ev → Bool) (l : List (Int × Int)) (i : Nat) : Bool :=
  !decide ((l.getD i (0, 0)).1 < 0) && (!decide ((X.evs.length : Int) ≤ (l.getD i (0, 0)).2) && (!decide ((l.getD i (0, 0)).2 ≤ (l.getD i (0, 0)).1) && (!(decide (0 < i) && decide (0 ≤ ordP (l.getD (i - 1) (0, 0)) (l.getD i (0, 0)))) && may (X.evs.getD (l.getD i (0, 0)).1.toNat ev0) (X.evs.getD (l.getD i (0, 0)).2.toNat ev0))))
def gList (X : Gr) (may : Ev → Ev → Bool) (l : List (Int × Int)) : Bool := allN l.length (lsK X may l)
theorem frz_p2 (hp) (x y : Int) : frz hp depth (.agg [.i .i64 x, .i .i64 y]) = some (.agg [.i .i64 x, .i .i64 y]) := by
  show frz hp (8 + 1) _ = _
  simp only [frz, frzL, Option.map_some]
theorem vis_p2 (hp) (x y : Int) : vis hp depth (.agg [.i .i64 x, .i .i64 y]) = [] := by
  show vis hp (8 + 1) _ = _
  simp only [vis, List.flatMap_cons, List.flatMap_nil, List.append_nil]
set_option maxRecDepth 100000 in
set_option maxHeartbeats 8000000 in
theorem sg_list (h192 : F 192 = some A_graph_list) (h239 : F 239 = some A_graph_order) (pc : Pk_cmp F) {X : Gr} (hn : X.evs.length ≤ 1000) {fid : Nat} {may : Ev → Ev → Bool} (hmay : ∀ a b, pureS F fid [.agg (evC a), .agg (evC b)] = some (.b (may a b))) (l : List (Int × Int)) (hl : l.length ≤ 1000) : pureS F 192 [.agg (grC X), .sl (pairsC l) l.length .non, .fn fid [] []] = some (.b (gList X may l)) := by
  refine pure_of h192 ?_
  have finT : (∀ i, i < l.length → lsK X may l i = true) → gList X may l = true := allN_t
  have finF : ∀ k, k < l.length → lsK X may l k = false → gList X may l = false := fun k hk h => allN_f hk h
  generalize gList X may l = R at finT finF
  simp (disch := omega) only [A_graph_list, wp, Nat.reduceAdd, Nat.reduceMul, Nat.reduceSub, gl]
  refine W_loop (fun q e g => ∃ k : Nat, q = l.length - k ∧ k ≤ l.length ∧ e 1 = .sl (pairsC l) l.length .non ∧ e 2 = .fn fid [] [] ∧ e 3 = .mp 0 0 ∧ e 9 = .sl (pairsC l) l.length .non ∧ e 10 = .i .i64 l.length ∧ e 11 = .i .i64 k ∧ g.hp 0 = some (.cells (grC X) false) ∧ 0 < g.nx ∧ ∀ i, i < k → lsK X may l i = true) l.length ?_ ?_
  · refine ⟨0, rfl, Nat.zero_le _, ?_⟩
    simp (disch := omega) only [wp, Nat.reduceAdd, Nat.reduceMul, Nat.reduceSub]
    exact ⟨rfl, by first | omega | (dsimp only; omega), fun i hi => by omega⟩
  · rintro q e g ⟨k, rfl, hk, e1, e2, e3, e9, e10, e11, hg, hnx, hall⟩
    by_cases hk' : k < l.length
    · have hk1 : (k : Int) < l.length := by omega
      have hwk := succ_wrap (k := k) (by omega)
      have hpp := pairs_part hk'
      have hK : lsK X may l k = (!decide ((l.getD k (0, 0)).1 < 0) && (!decide ((X.evs.length : Int) ≤ (l.getD k (0, 0)).2) && (!decide ((l.getD k (0, 0)).2 ≤ (l.getD k (0, 0)).1) && (!(decide (0 < k) && decide (0 ≤ ordP (l.getD (k - 1) (0, 0)) (l.getD k (0, 0)))) && may (X.evs.getD (l.getD k (0, 0)).1.toNat ev0) (X.evs.getD (l.getD k (0, 0)).2.toNat ev0))))) := rfl
      have hf := finF k hk'
      rw [hK] at hf
      have hall' : lsK X may l k = true → ∀ i, i < k + 1 → lsK X may l i = true := by
        intro h i hi
        by_cases hik : i = k
        · subst hik; exact h
        · exact hall i (by omega)
      rw [hK] at hall'
      have ho := sg_order pc h239 (l.getD (k - 1) (0, 0)) (l.getD k (0, 0))
      have hpq := pairs_part (l := l) (k := k - 1) (by omega)
      have dq : (List.drop ((k - 1) * 2) (pairsC l)).length = l.length * 2 - (k - 1) * 2 := by rw [List.length_drop, pairsC_len]
      generalize l.getD k (0, 0) = p at hpp hf hall' ho
      generalize l.getD (k - 1) (0, 0) = pq at hf hall' ho hpq
      obtain ⟨a, b⟩ := p
      have s2 : ∀ b1 b2 c1 c2 : AV, splice [b1, b2] 0 [c1, c2] = [c1, c2] := fun _ _ _ _ => rfl
      have n1 : 0 ≠ g.nx + 2 + 1 := by omega
      simp only at hpp hf hall' ho
      by_cases c1 : a < 0
      · obtain rfl := hf (by simp [c1])
        simp (disch := omega) only [wp, Nat.reduceAdd, Nat.reduceMul, Nat.reduceSub, gl, s2, frz_p2, vis_p2, e1, e2, e3, e9, e10, e11, hg, hk1, hpp, c1]
      by_cases c2 : (X.evs.length : Int) ≤ b
      · obtain rfl := hf (by simp [c2])
        simp (disch := omega) only [wp, Nat.reduceAdd, Nat.reduceMul, Nat.reduceSub, gl, s2, frz_p2, vis_p2, e1, e2, e3, e9, e10, e11, hg, hk1, hpp, c1, c2]
      by_cases c3 : b ≤ a
      · obtain rfl := hf (by simp [c3])
        simp (disch := omega) only [wp, Nat.reduceAdd, Nat.reduceMul, Nat.reduceSub, gl, s2, frz_p2, vis_p2, e1, e2, e3, e9, e10, e11, hg, hk1, hpp, c1, c2, c3]
      have hm := hmay (X.evs.getD a.toNat ev0) (X.evs.getD b.toNat ev0)
      have pa := ev_part (l := X.evs) (k := a.toNat) (by omega)
      have pb := ev_part (l := X.evs) (k := b.toNat) (by omega)
      generalize X.evs.getD a.toNat ev0 = ea at hm pa hf hall'
      generalize X.evs.getD b.toNat ev0 = eb at hm pb hf hall'
      have a0 : 0 ≤ a := by omega
      have an : a < X.evs.length := by omega
      have b0 : 0 ≤ b := by omega
      have bn : b < X.evs.length := by omega
      by_cases c4 : 0 < k
      · have c4' : (0 : Int) < k := by omega
        have hw1 : IntKind.i64.wrap ((k : Int) - 1) = ((k - 1 : Nat) : Int) := by rw [i64_wrap (by omega) (by omega)]; omega
        have km : ((k - 1 : Nat) : Int) < l.length := by omega
        by_cases c5 : 0 ≤ ordP pq (a, b)
        · obtain rfl := hf (by simp [c4, c5])
          simp (disch := omega) only [wp, Nat.reduceAdd, Nat.reduceMul, Nat.reduceSub, gl, s2, frz_p2, vis_p2, e1, e2, e3, e9, e10, e11, hg, hk1, hpp, c1, c2, c3, c4', hw1, km, hpq, dq, ho, c5]
        · cases c6 : may ea eb
          · rw [c6] at hm
            obtain rfl := hf (by simp [c6])
            simp (disch := omega) only [wp, Nat.reduceAdd, Nat.reduceMul, Nat.reduceSub, gl, s2, frz_p2, vis_p2, e1, e2, e3, e9, e10, e11, hg, hk1, hpp, c1, c2, c3, c4', hw1, km, hpq, dq, ho, c5, pa, pb, a0, an, b0, bn, hm]
          · rw [c6] at hm
            have hall' := hall' (by simp [c1, c2, c3, c5, c6])
            simp (disch := omega) only [wp, Nat.reduceAdd, Nat.reduceMul, Nat.reduceSub, gl, s2, frz_p2, vis_p2, e1, e2, e3, e9, e10, e11, hg, hk1, hpp, c1, c2, c3, c4', hw1, km, hpq, dq, ho, c5, pa, pb, a0, an, b0, bn, hm, hwk]
            exact ⟨l.length - (k + 1), by omega, k + 1, rfl, by omega, rfl, by first | omega | (dsimp only; omega), hall'⟩
      · have c4' : ¬ (0 : Int) < k := by omega
        cases c6 : may ea eb
        · rw [c6] at hm
          obtain rfl := hf (by simp [c6])
          simp (disch := omega) only [wp, Nat.reduceAdd, Nat.reduceMul, Nat.reduceSub, gl, s2, frz_p2, vis_p2, e1, e2, e3, e9, e10, e11, hg, hk1, hpp, c1, c2, c3, c4', pa, pb, a0, an, b0, bn, hm]
        · rw [c6] at hm
          have hall' := hall' (by simp [c1, c2, c3, c4, c6])
          simp (disch := omega) only [wp, Nat.reduceAdd, Nat.reduceMul, Nat.reduceSub, gl, s2, frz_p2, vis_p2, e1, e2, e3, e9, e10, e11, hg, hk1, hpp, c1, c2, c3, c4', pa, pb, a0, an, b0, bn, hm, hwk]
          exact ⟨l.length - (k + 1), by omega, k + 1, rfl, by omega, rfl, by first | omega | (dsimp only; omega), hall'⟩
    · have hk1 : ¬ ((k : Int) < l.length) := by omega
      obtain rfl : k = l.length := by omega
      obtain rfl := finT hall
      simp (disch := omega) only [wp, Nat.reduceAdd, Nat.reduceMul, Nat.reduceSub, gl, e1, e2, e3, e9, e10, e11, hg, hk1]
end Go.Ab
end
section
set_option linter.unusedVariables false
set_option linter.unusedSimpArgs false
namespace Go.Ab
variable {F : Funs}
def nEx (X : Gr) (k : Nat) : Nat := ((X.evs.take k).filter (·.ex)).length
theorem nEx_succ {X : Gr} {k : Nat} (h : k < X.evs.length) : nEx X (k + 1) = if (X.evs.getD k ev0).ex then nEx X k + 1 else nEx X k := by
  unfold nEx
  rw [List.take_add_one, List.filter_append, List.getElem?_eq_getElem h, List.getD_eq_getElem?_getD, List.getElem?_eq_getElem h, List.length_append]
  simp only [Option.toList_some, Option.getD_some, List.filter_cons, List.filter_nil]
  split <;> simp
theorem nEx_le (X : Gr) (k : Nat) : nEx X k ≤ k := by
  unfold nEx
  have h1 := List.length_filter_le (·.ex) (X.evs.take k)
  rw [List.length_take] at h1
  omega
def rmLast (X : Gr) (k : Nat) : Int := if k = 0 then -1 else (X.rmw.getD (k - 1) (0, 0)).2
def rmK (X : Gr) (k : Nat) : Bool := !((X.rmw.getD k (0, 0)).2 != (X.rmw.getD k (0, 0)).1 + 1) && !decide ((X.rmw.getD k (0, 0)).1 ≤ rmLast X k)
def gRmw (X : Gr) : Bool := gList X mayR X.rmw && (allN X.rmw.length (rmK X) && ((nEx X X.evs.length : Int) == 2 * (X.rmw.length : Int)))
theorem gList_at {X : Gr} {may} {l : List (Int × Int)} (h : gList X may l = true) {k : Nat} (hk : k < l.length) : 0 ≤ (l.getD k (0, 0)).1 ∧ (l.getD k (0, 0)).1 < (l.getD k (0, 0)).2 ∧ (l.getD k (0, 0)).2 < X.evs.length := by
  have := allN_iff.1 h k hk
  unfold lsK at this
  simp only [Bool.and_eq_true, Bool.not_eq_true', decide_eq_false_iff_not] at this
  obtain ⟨h1, h2, h3, _⟩ := this
  omega
set_option maxRecDepth 100000 in
set_option maxHeartbeats 8000000 in
theorem sg_rmw (h190 : F 190 = some A_graph_rmw) (h238 : F 238 = some A_graph_rmw_1) (h192 : F 192 = some A_graph_list) (h239 : F 239 = some A_graph_order) (pc : Pk_cmp F) {X : Gr} (hn : X.evs.length ≤ 1000) (hr : X.rmw.length ≤ 1000) : pureS F 190 [.agg (grC X)] = some (.b (gRmw X)) := by
  refine pure_of h190 ?_
  have hR : gRmw X = (gList X mayR X.rmw && (allN X.rmw.length (rmK X) && ((nEx X X.evs.length : Int) == 2 * (X.rmw.length : Int)))) := rfl
  have hl := sg_list h192 h239 pc hn (sg_mayR h238) X.rmw hr
  cases c0 : gList X mayR X.rmw
  · rw [c0] at hR hl
    rw [hR]
    simp (disch := omega) only [A_graph_rmw, wp, Nat.reduceAdd, Nat.reduceMul, Nat.reduceSub, gl, hl]
  rw [c0] at hl
  rw [c0, Bool.true_and] at hR
  have hat := fun {k : Nat} (hk : k < X.rmw.length) => gList_at c0 hk
  have finF : ∀ k, k < X.rmw.length → rmK X k = false → gRmw X = false := fun k hk h => by rw [hR, allN_f hk h]; rfl
  have finT : (∀ i, i < X.rmw.length → rmK X i = true) → gRmw X = ((nEx X X.evs.length : Int) == 2 * (X.rmw.length : Int)) := fun h => by rw [hR, allN_t h, Bool.true_and]
  clear hR
  generalize gRmw X = R at finT finF
  simp (disch := omega) only [A_graph_rmw, wp, Nat.reduceAdd, Nat.reduceMul, Nat.reduceSub, gl, hl]
  refine blk_cut (fun e g => e 1 = .mp 0 0 ∧ e 4 = .i .i64 (nEx X X.evs.length : Nat) ∧ g.hp 0 = some (.cells (grC X) false) ∧ 0 < g.nx) ?_ ?_
  · refine W_loop (fun q e g => ∃ k : Nat, q = X.evs.length - k ∧ k ≤ X.evs.length ∧ e 1 = .mp 0 0 ∧ e 4 = .i .i64 (nEx X k : Nat) ∧ e 17 = .sl (evsC X.evs) X.evs.length .non ∧ e 18 = .i .i64 X.evs.length ∧ e 19 = .i .i64 k ∧ g.hp 0 = some (.cells (grC X) false) ∧ 0 < g.nx) X.evs.length ?_ ?_
    · refine ⟨0, rfl, Nat.zero_le _, ?_⟩
      simp (disch := omega) only [wp, Nat.reduceAdd, Nat.reduceMul, Nat.reduceSub]
      exact ⟨rfl, rfl, by first | omega | (dsimp only; omega)⟩
    · rintro q e g ⟨k, rfl, hk, e1, e4, e17, e18, e19, hg, hnx⟩
      by_cases hk' : k < X.evs.length
      · have hk1 : (k : Int) < X.evs.length := by omega
        have hwk := succ_wrap (k := k) (by omega)
        have hev := ev_part hk'
        have hs := nEx_succ hk'
        have hle := nEx_le X k
        generalize nEx X k = c at e4 hs hle
        have hwc := succ_wrap (k := c) (by omega)
        generalize X.evs.getD k ev0 = ev at hev hs
        have n1 : 0 ≠ g.nx + 1 + 1 := by omega
        cases c1 : ev.ex
        · rw [c1] at hs
          simp (disch := omega) only [wp, Nat.reduceAdd, Nat.reduceMul, Nat.reduceSub, gl, e1, e4, e17, e18, e19, hg, hk1, hev, c1, hwk]
          exact ⟨X.evs.length - (k + 1), by omega, k + 1, rfl, by omega, by rw [hs]; rfl, rfl, by first | omega | (dsimp only; omega)⟩
        · rw [c1] at hs
          simp (disch := omega) only [wp, Nat.reduceAdd, Nat.reduceMul, Nat.reduceSub, gl, e1, e4, e17, e18, e19, hg, hk1, hev, c1, hwk, hwc]
          exact ⟨X.evs.length - (k + 1), by omega, k + 1, rfl, by omega, by rw [hs]; rfl, rfl, by first | omega | (dsimp only; omega)⟩
      · have hk1 : ¬ ((k : Int) < X.evs.length) := by omega
        obtain rfl : k = X.evs.length := by omega
        simp (disch := omega) only [wp, Nat.reduceAdd, Nat.reduceMul, Nat.reduceSub, gl, e1, e4, e17, e18, e19, hg, hk1]
        exact (by first | omega | (dsimp only; omega))
  · rintro e g ⟨e1, e4, hg, hnx⟩
    generalize nEx X X.evs.length = N at e4 finT
    simp (disch := omega) only [wp, Nat.reduceAdd, Nat.reduceMul, Nat.reduceSub, gl, e1, e4, hg]
    refine W_loop (fun q e g => ∃ k : Nat, q = X.rmw.length - k ∧ k ≤ X.rmw.length ∧ e 1 = .mp 0 0 ∧ e 4 = .i .i64 N ∧ e 7 = .i .i64 (rmLast X k) ∧ e 29 = .sl (pairsC X.rmw) X.rmw.length .non ∧ e 30 = .i .i64 X.rmw.length ∧ e 31 = .i .i64 k ∧ g.hp 0 = some (.cells (grC X) false) ∧ 0 < g.nx ∧ ∀ i, i < k → rmK X i = true) X.rmw.length ?_ ?_
    · refine ⟨0, rfl, Nat.zero_le _, ?_⟩
      simp (disch := omega) only [wp, Nat.reduceAdd, Nat.reduceMul, Nat.reduceSub, e1, e4]
      exact ⟨rfl, rfl, hg, by first | omega | (dsimp only; omega), fun i hi => by omega⟩
    · rintro q e g ⟨k, rfl, hk, e1, e4, e7, e29, e30, e31, hg, hnx, hall⟩
      by_cases hk' : k < X.rmw.length
      · have hk1 : (k : Int) < X.rmw.length := by omega
        have hwk := succ_wrap (k := k) (by omega)
        have hpp := pairs_part hk'
        have hb := hat hk'
        have hK : rmK X k = (!((X.rmw.getD k (0, 0)).2 != (X.rmw.getD k (0, 0)).1 + 1) && !decide ((X.rmw.getD k (0, 0)).1 ≤ rmLast X k)) := rfl
        have hL : rmLast X (k + 1) = (X.rmw.getD k (0, 0)).2 := rfl
        have hf := finF k hk'
        rw [hK] at hf
        have hall' : rmK X k = true → ∀ i, i < k + 1 → rmK X i = true := by
          intro h i hi
          by_cases hik : i = k
          · subst hik; exact h
          · exact hall i (by omega)
        rw [hK] at hall'
        generalize rmLast X k = la at e7 hf hall'
        generalize X.rmw.getD k (0, 0) = p at hpp hf hall' hL hb
        obtain ⟨a, b⟩ := p
        simp only at hpp hf hall' hL hb
        have s2 : ∀ b1 b2 c1 c2 : AV, splice [b1, b2] 0 [c1, c2] = [c1, c2] := fun _ _ _ _ => rfl
        have n1 : 0 ≠ g.nx + 1 + 1 := by omega
        have hwa : IntKind.i64.wrap (a + 1) = a + 1 := by rw [i64_wrap (by omega) (by omega)]
        cases c1 : (b != a + 1)
        · by_cases c2 : a ≤ la
          · obtain rfl := hf (by simp [c2])
            simp (disch := omega) only [wp, Nat.reduceAdd, Nat.reduceMul, Nat.reduceSub, gl, s2, e1, e4, e7, e29, e30, e31, hg, hk1, hpp, hwa, c1, c2]
          · rw [c1] at hall'
            have hall' := hall' (by simp [c2])
            simp (disch := omega) only [wp, Nat.reduceAdd, Nat.reduceMul, Nat.reduceSub, gl, s2, e1, e4, e7, e29, e30, e31, hg, hk1, hpp, hwa, c1, c2, hwk]
            exact ⟨X.rmw.length - (k + 1), by omega, k + 1, rfl, by omega, by rw [hL], rfl, by first | omega | (dsimp only; omega), hall'⟩
        · rw [c1] at hf
          obtain rfl := hf rfl
          simp (disch := omega) only [wp, Nat.reduceAdd, Nat.reduceMul, Nat.reduceSub, gl, s2, e1, e4, e7, e29, e30, e31, hg, hk1, hpp, hwa, c1]
      · have hk1 : ¬ ((k : Int) < X.rmw.length) := by omega
        obtain rfl : k = X.rmw.length := by omega
        obtain rfl := finT hall
        have hwm : IntKind.i64.wrap (2 * (X.rmw.length : Int)) = 2 * (X.rmw.length : Int) := by rw [i64_wrap (by omega) (by omega)]
        simp (disch := omega) only [wp, Nat.reduceAdd, Nat.reduceMul, Nat.reduceSub, gl, e1, e4, e7, e29, e30, e31, hg, hk1, hwm]
end Go.Ab
end
section
set_option linter.unusedVariables false
set_option linter.unusedSimpArgs false
namespace Go.Ab
variable {F : Funs}
def seenC (L : List Int) : List AV := (List.range 40).map fun i : Nat => .b (L.contains (i : Int))
theorem seenC_len (L) : (seenC L).length = 40 := by simp [seenC]
theorem seenC_zero : List.replicate 40 (AV.b false) = seenC [] := by rfl
theorem seen_at {L : List Int} {a : Nat} (h : a < 40) : part (seenC L) (a * 1) none = some (.b (L.contains (a : Int))) := by
  simp only [part, seenC, Nat.mul_one, List.getElem?_map, List.getElem?_range h, Option.map_some]
theorem seen_set {L : List Int} {a : Nat} (h : a < 40) : (seenC L).set (a * 1) (.b true) = seenC (L ++ [(a : Int)]) := by
  rw [Nat.mul_one]
  refine List.ext_getElem? fun i => ?_
  rw [List.getElem?_set]
  unfold seenC
  simp only [List.length_map, List.length_range, List.getElem?_map]
  by_cases hi : a = i
  · subst hi
    rw [if_pos rfl, if_pos h, List.getElem?_range h]
    simp
  · rw [if_neg hi]
    by_cases hl : i < 40
    · rw [List.getElem?_range hl]
      simp only [Option.map_some, Option.some.injEq, AV.b.injEq, List.contains_eq_mem, List.mem_append, List.mem_singleton]
      have hne : ¬ ((i : Int) = (a : Int)) := by omega
      simp [hne]
    · rw [List.getElem?_eq_none (by simp; omega)]; rfl
def coS' (X : Gr) (k j : Nat) : List Int := (X.co.take k).flatten ++ (X.co.getD k []).take j
theorem coS'_succ {X : Gr} {k j : Nat} (h : j < (X.co.getD k []).length) : coS' X k (j + 1) = coS' X k j ++ [(X.co.getD k []).getD j 0] := by
  unfold coS'
  rw [List.take_add_one, List.getElem?_eq_getElem h, List.append_assoc, List.getD_eq_getElem?_getD (l := X.co.getD k []), List.getElem?_eq_getElem h]
  rfl
theorem coS'_next {X : Gr} {k : Nat} (h : k < X.co.length) : coS' X k (X.co.getD k []).length = coS' X (k + 1) 0 := by
  unfold coS'
  rw [List.take_length, List.take_zero, List.append_nil, List.take_add_one, List.getElem?_eq_getElem h, List.getD_eq_getElem?_getD, List.getElem?_eq_getElem h, List.flatten_append]
  simp
theorem coS'_end (X : Gr) : coS' X X.co.length 0 = X.co.flatten := by
  unfold coS'
  rw [List.take_length, List.take_zero, List.append_nil]
theorem coS'_le {X : Gr} {k j : Nat} (h : k < X.co.length) : (coS' X k j).length ≤ X.co.flatten.length := by
  have e : X.co = X.co.take k ++ X.co.drop k := (List.take_append_drop k X.co).symm
  have e2 : X.co.drop k = X.co.getD k [] :: X.co.drop (k + 1) := by
    rw [List.drop_eq_getElem_cons h, List.getD_eq_getElem?_getD, List.getElem?_eq_getElem h]; rfl
  have e3 : X.co.flatten = (X.co.take k).flatten ++ (X.co.getD k [] ++ (X.co.drop (k + 1)).flatten) := by
    conv => lhs; rw [e, e2]
    rw [List.flatten_append, List.flatten_cons]
  rw [e3]
  unfold coS'
  simp only [List.length_append, List.length_take]
  omega
def ciK (X : Gr) (k j : Nat) : Bool := gWr X ((X.co.getD k []).getD j 0) k && !(coS' X k j).contains ((X.co.getD k []).getD j 0)
def coK (X : Gr) (k : Nat) : Bool := !(((X.co.getD k []).length : Int) == 0) && (!((X.co.getD k []).getD 0 0 != (k : Int)) && allN (X.co.getD k []).length (ciK X k))
def nWr (X : Gr) (k : Nat) : Nat := ((X.evs.take k).filter (·.kd == 2)).length
theorem nWr_succ {X : Gr} {k : Nat} (h : k < X.evs.length) : nWr X (k + 1) = if (X.evs.getD k ev0).kd == 2 then nWr X k + 1 else nWr X k := by
  unfold nWr
  rw [List.take_add_one, List.filter_append, List.getElem?_eq_getElem h, List.getD_eq_getElem?_getD, List.getElem?_eq_getElem h, List.length_append]
  simp only [Option.toList_some, Option.getD_some, List.filter_cons, List.filter_nil]
  split <;> simp
theorem nWr_le (X : Gr) (k : Nat) : nWr X k ≤ k := by
  unfold nWr
  have h1 := List.length_filter_le (·.kd == 2) (X.evs.take k)
  rw [List.length_take] at h1
  omega
def gCo (X : Gr) : Bool := ((X.co.length : Int) == X.locs) && (allN X.co.length (coK X) && ((X.co.flatten.length : Int) - (nWr X X.evs.length : Int) == 0))
set_option maxRecDepth 100000 in
set_option maxHeartbeats 8000000 in
theorem sg_co (h189 : F 189 = some A_graph_co) (h237 : F 237 = some A_graph_write) {X : Gr} (hn : X.evs.length ≤ 40) (hc : X.co.flatten.length ≤ 1000) (hc6 : X.co.length ≤ 1000) (hcl : ∀ k, (X.co.getD k []).length ≤ 1000) : pureS F 189 [.agg (grC X)] = some (.b (gCo X)) := by
  refine pure_of h189 ?_
  have hR : gCo X = (((X.co.length : Int) == X.locs) && (allN X.co.length (coK X) && ((X.co.flatten.length : Int) - (nWr X X.evs.length : Int) == 0))) := rfl
  cases c0 : ((X.co.length : Int) == X.locs)
  · rw [c0] at hR
    have c0' : ((X.co.length : Int) != X.locs) = true := by unfold bne; rw [c0]; rfl
    rw [hR]
    simp (disch := omega) only [A_graph_co, wp, Nat.reduceAdd, Nat.reduceMul, Nat.reduceSub, gl, c0']
  rw [c0, Bool.true_and] at hR
  have c0' : ((X.co.length : Int) != X.locs) = false := by unfold bne; rw [c0]; rfl
  have finF : ∀ k, k < X.co.length → coK X k = false → gCo X = false := fun k hk h => by rw [hR, allN_f hk h]; rfl
  have finT : (∀ i, i < X.co.length → coK X i = true) → gCo X = ((X.co.flatten.length : Int) - (nWr X X.evs.length : Int) == 0) := fun h => by rw [hR, allN_t h, Bool.true_and]
  clear hR
  generalize gCo X = R at finT finF
  simp (disch := omega) only [A_graph_co, wp, Nat.reduceAdd, Nat.reduceMul, Nat.reduceSub, gl, c0', seenC_zero]
  refine blk_cutR (fun e g => e 1 = .mp 0 0 ∧ e 3 = .i .i64 X.co.flatten.length ∧ g.hp 0 = some (.cells (grC X) false) ∧ 0 < g.nx ∧ ∀ i, i < X.co.length → coK X i = true) ?_ ?_
  · refine W_loop (fun q e g => ∃ k : Nat, q = X.co.length - k ∧ k ≤ X.co.length ∧ e 1 = .mp 0 0 ∧ e 3 = .i .i64 (coS' X k 0).length ∧ e 4 = .mp 9 0 ∧ e 18 = .sl (coC X.co) X.co.length .non ∧ e 19 = .i .i64 X.co.length ∧ e 20 = .i .i64 k ∧ g.hp 0 = some (.cells (grC X) false) ∧ g.hp 9 = some (.cells (seenC (coS' X k 0)) false) ∧ 9 < g.nx ∧ ∀ i, i < k → coK X i = true) X.co.length ?_ ?_
    · refine ⟨0, rfl, Nat.zero_le _, ?_⟩
      simp (disch := omega) only [wp, Nat.reduceAdd, Nat.reduceMul, Nat.reduceSub]
      exact ⟨rfl, rfl, rfl, by first | omega | (dsimp only; omega), fun i hi => by omega⟩
    · rintro q e g ⟨k, rfl, hk, e1, e3, e4, e18, e19, e20, hg, hs, hnx, hall⟩
      by_cases hk' : k < X.co.length
      · have hk1 : (k : Int) < X.co.length := by omega
        have hwk := succ_wrap (k := k) (by omega)
        have hcp := co_part hk'
        have hK : coK X k = (!(((X.co.getD k []).length : Int) == 0) && (!((X.co.getD k []).getD 0 0 != (k : Int)) && allN (X.co.getD k []).length (ciK X k))) := rfl
        have hci : ∀ j, ciK X k j = (gWr X ((X.co.getD k []).getD j 0) k && !(coS' X k j).contains ((X.co.getD k []).getD j 0)) := fun _ => rfl
        have hf := finF k hk'
        rw [hK] at hf
        have hall' : coK X k = true → ∀ i, i < k + 1 → coK X i = true := by
          intro h i hi
          by_cases hik : i = k
          · subst hik; exact h
          · exact hall i (by omega)
        rw [hK] at hall'
        have hll := hcl k
        have hsu := fun {j : Nat} (h : j < (X.co.getD k []).length) => coS'_succ h
        have hnx' := coS'_next hk'
        have hle := fun j => coS'_le (X := X) (k := k) (j := j) hk'
        generalize X.co.getD k [] = l at hcp hf hall' hll hsu hnx' hci
        cases c1 : ((l.length : Int) == 0)
        case true =>
          rw [c1] at hf
          obtain rfl := hf rfl
          simp (disch := omega) only [wp, Nat.reduceAdd, Nat.reduceMul, Nat.reduceSub, gl, e1, e3, e4, e18, e19, e20, hg, hs, hk1, hcp, c1]
        have hl0 : 0 < l.length := by have : ¬ (l.length : Int) = 0 := by simpa using c1
                                      omega
        have hl0' : (0 : Int) < l.length := by omega
        have hip := ints_part hl0
        rw [Nat.zero_mul, List.drop_zero] at hip
        cases c2 : (l.getD 0 0 != (k : Int))
        case true =>
          rw [c2] at hf
          obtain rfl := hf (by simp)
          simp (disch := omega) only [wp, Nat.reduceAdd, Nat.reduceMul, Nat.reduceSub, gl, e1, e3, e4, e18, e19, e20, hg, hs, hk1, hcp, c1, hl0', hip, c2]
        rw [c1, c2] at hf hall'
        have hf : ∀ j, j < l.length → ciK X k j = false → R = false := fun j hj h => hf (by rw [allN_f hj h]; rfl)
        have hall' : (∀ j, j < l.length → ciK X k j = true) → ∀ i, i < k + 1 → coK X i = true := fun h => hall' (by rw [allN_t h]; rfl)
        simp (disch := omega) only [wp, Nat.reduceAdd, Nat.reduceMul, Nat.reduceSub, gl, e1, e3, e4, e18, e19, e20, hg, hs, hk1, hcp, c1, hl0', hip, c2]
        refine W_loop (fun q e g => ∃ j : Nat, q = l.length - j ∧ j ≤ l.length ∧ e 1 = .mp 0 0 ∧ e 3 = .i .i64 (coS' X k j).length ∧ e 4 = .mp 9 0 ∧ e 5 = .i .i64 k ∧ e 18 = .sl (coC X.co) X.co.length .non ∧ e 19 = .i .i64 X.co.length ∧ e 20 = .i .i64 k ∧ e 35 = .sl (intsC l) l.length .non ∧ e 36 = .i .i64 l.length ∧ e 37 = .i .i64 j ∧ g.hp 0 = some (.cells (grC X) false) ∧ g.hp 9 = some (.cells (seenC (coS' X k j)) false) ∧ 9 < g.nx ∧ ∀ i, i < j → ciK X k i = true) l.length ?_ ?_
        · refine ⟨0, rfl, Nat.zero_le _, ?_⟩
          simp (disch := omega) only [wp, Nat.reduceAdd, Nat.reduceMul, Nat.reduceSub, e1, e3, e4, e18, e19, e20]
          exact ⟨rfl, hg, hs, by first | omega | (dsimp only; omega), fun i hi => by omega⟩
        · rintro q e g ⟨j, rfl, hj, e1, e3, e4, e5, e18, e19, e20, e35, e36, e37, hg, hs, hnx, hin⟩
          by_cases hj' : j < l.length
          · have hj1 : (j : Int) < l.length := by omega
            have hwj := succ_wrap (k := j) (by omega)
            have hjp := ints_part hj'
            have hw := sg_write h237 X (l.getD j 0) k
            have hwin := gWr_in (X := X) (i := l.getD j 0) (loc := k)
            have hff := hf j hj'
            have hcj := hci j
            have hsu := hsu hj'
            have hlj := hle j
            rw [hcj] at hff
            have hin' : ciK X k j = true → ∀ i, i < j + 1 → ciK X k i = true := by
              intro h i hi
              by_cases hij : i = j
              · subst hij; exact h
              · exact hin i (by omega)
            rw [hcj] at hin'
            generalize l.getD j 0 = w at hjp hw hwin hff hin' hsu
            generalize coS' X k j = L at e3 hs hff hin' hsu hlj
            have hwc := succ_wrap (k := L.length) (by omega)
            cases c3 : gWr X w k
            · rw [c3] at hw hff
              obtain rfl := hff rfl
              simp (disch := omega) only [wp, Nat.reduceAdd, Nat.reduceMul, Nat.reduceSub, gl, e1, e3, e4, e5, e18, e19, e20, e35, e36, e37, hg, hs, hj1, hjp, hw]
            · obtain ⟨w0, w1⟩ := hwin c3
              rw [c3] at hw hff hin'
              have ra := seen_at (L := L) (a := w.toNat) (by omega)
              have sa := seen_set (L := L) (a := w.toNat) (by omega)
              have ew : ((w.toNat : Nat) : Int) = w := by omega
              rw [ew] at ra sa
              have w40 : w < 40 := by omega
              cases c4 : L.contains w
              · rw [c4] at ra hin'
                have hin' := hin' rfl
                simp (disch := omega) only [wp, Nat.reduceAdd, Nat.reduceMul, Nat.reduceSub, gl, e1, e3, e4, e5, e18, e19, e20, e35, e36, e37, hg, hs, hj1, hjp, hw, w0, w40, ra, sa, seenC_len, hwj, hwc]
                refine ⟨l.length - (j + 1), by omega, j + 1, rfl, by omega, by rw [hsu, List.length_append]; rfl, rfl, by rw [hsu], by first | omega | (dsimp only; omega), hin'⟩
              · rw [c4] at ra hff
                obtain rfl := hff rfl
                simp (disch := omega) only [wp, Nat.reduceAdd, Nat.reduceMul, Nat.reduceSub, gl, e1, e3, e4, e5, e18, e19, e20, e35, e36, e37, hg, hs, hj1, hjp, hw, w0, w40, ra]
          · have hj1 : ¬ ((j : Int) < l.length) := by omega
            obtain rfl : j = l.length := by omega
            rw [hnx'] at e3 hs
            simp (disch := omega) only [wp, Nat.reduceAdd, Nat.reduceMul, Nat.reduceSub, gl, e1, e3, e4, e5, e18, e19, e20, e35, e36, e37, hg, hs, hj1, hwk]
            exact ⟨X.co.length - (k + 1), by omega, k + 1, rfl, by omega, rfl, rfl, by first | rfl | exact hs | omega, by first | omega | (dsimp only; omega), hall' hin⟩
      · have hk1 : ¬ ((k : Int) < X.co.length) := by omega
        obtain rfl : k = X.co.length := by omega
        rw [coS'_end] at e3
        simp (disch := omega) only [wp, Nat.reduceAdd, Nat.reduceMul, Nat.reduceSub, gl, e1, e3, e4, e18, e19, e20, hg, hs, hk1]
        exact ⟨by first | omega | (dsimp only; omega), hall⟩
  · rintro e g ⟨e1, e3, hg, hnx, hall⟩
    obtain rfl := finT hall
    generalize X.co.flatten.length = T at e3 hc
    simp (disch := omega) only [wp, Nat.reduceAdd, Nat.reduceMul, Nat.reduceSub, gl, e1, e3, hg]
    refine W_loop (fun q e g => ∃ k : Nat, q = X.evs.length - k ∧ k ≤ X.evs.length ∧ e 1 = .mp 0 0 ∧ e 3 = .i .i64 ((T : Int) - (nWr X k : Nat)) ∧ e 58 = .sl (evsC X.evs) X.evs.length .non ∧ e 59 = .i .i64 X.evs.length ∧ e 60 = .i .i64 k ∧ g.hp 0 = some (.cells (grC X) false) ∧ 0 < g.nx) X.evs.length ?_ ?_
    · refine ⟨0, rfl, Nat.zero_le _, ?_⟩
      simp (disch := omega) only [wp, Nat.reduceAdd, Nat.reduceMul, Nat.reduceSub, e1, e3]
      exact ⟨by simp [nWr], rfl, hg, by first | omega | (dsimp only; omega)⟩
    · rintro q e g ⟨k, rfl, hk, e1, e3, e58, e59, e60, hg, hnx⟩
      by_cases hk' : k < X.evs.length
      · have hk1 : (k : Int) < X.evs.length := by omega
        have hwk := succ_wrap (k := k) (by omega)
        have hev := ev_part hk'
        have hs := nWr_succ hk'
        have hle := nWr_le X k
        generalize nWr X k = c at e3 hs hle
        have hwc : IntKind.i64.wrap ((T : Int) - (c : Nat) - 1) = (T : Int) - ((c + 1 : Nat) : Int) := by rw [i64_wrap (by omega) (by omega)]; omega
        generalize X.evs.getD k ev0 = ev at hev hs
        have n1 : 0 ≠ g.nx + 1 + 1 := by omega
        cases c1 : (ev.kd == 2)
        · rw [c1] at hs
          simp (disch := omega) only [wp, Nat.reduceAdd, Nat.reduceMul, Nat.reduceSub, gl, e1, e3, e58, e59, e60, hg, hk1, hev, c1, hwk]
          exact ⟨X.evs.length - (k + 1), by omega, k + 1, rfl, by omega, by rw [hs]; rfl, rfl, by first | omega | (dsimp only; omega)⟩
        · rw [c1] at hs
          simp (disch := omega) only [wp, Nat.reduceAdd, Nat.reduceMul, Nat.reduceSub, gl, e1, e3, e58, e59, e60, hg, hk1, hev, c1, hwk, hwc]
          exact ⟨X.evs.length - (k + 1), by omega, k + 1, rfl, by omega, by rw [hs]; rfl, rfl, by first | omega | (dsimp only; omega)⟩
      · have hk1 : ¬ ((k : Int) < X.evs.length) := by omega
        obtain rfl : k = X.evs.length := by omega
        simp (disch := omega) only [wp, Nat.reduceAdd, Nat.reduceMul, Nat.reduceSub, gl, e1, e3, e58, e59, e60, hg, hk1]
end Go.Ab
end
section
set_option linter.unusedVariables false
set_option linter.unusedSimpArgs false
namespace Go.Ab
variable {F : Funs}
def gCheck (X : Gr) : Bool :=
  !decide (X.locs < 1) && (!decide (4 < X.locs) && (!decide (40 < (X.evs.length : Int)) && (!decide ((X.evs.length : Int) < X.locs) && (gFirst X && (gThr X && (gRf X && (gCo X && (gRmw X && (gList X mayD X.data && (gList X mayD X.ctrl && gList X mayD X.ctrli))))))))))
structure GrFs (F : Funs) : Prop where
  chk : F 152 = some A_graph_Check
  fst : F 186 = some A_graph_first
  thr : F 187 = some A_graph_threads
  rf : F 188 = some A_graph_rf
  co : F 189 = some A_graph_co
  rmw : F 190 = some A_graph_rmw
  chk1 : F 191 = some A_graph_Check_1
  list : F 192 = some A_graph_list
  event : F 236 = some A_graph_event
  write : F 237 = some A_graph_write
  rmw1 : F 238 = some A_graph_rmw_1
  order : F 239 = some A_graph_order
  pc : Pk_cmp F
structure LenG (X : Gr) : Prop where
  fl : X.co.flatten.length ≤ 1000
  col : X.co.length ≤ 1000
  cos : ∀ k, (X.co.getD k []).length ≤ 1000
  rmw : X.rmw.length ≤ 1000
  data : X.data.length ≤ 1000
  ctrl : X.ctrl.length ≤ 1000
  ctrli : X.ctrli.length ≤ 1000
theorem flat_le : ∀ {l : List (List Int)} {m : Nat}, (∀ c ∈ l, c.length ≤ m) → l.flatten.length ≤ l.length * m
  | [], _, _ => by simp
  | c :: l, m, h => by
    have h1 := flat_le (l := l) (m := m) fun c hc => h c (List.mem_cons_of_mem _ hc)
    have h2 := h c (List.mem_cons_self ..)
    rw [List.flatten_cons, List.length_append, List.length_cons, Nat.succ_mul]
    omega
theorem FewG.len {X : Gr} (h : FewG X) : LenG X := by
  have h1 := flat_le h.cos
  have h2 := h.co
  have h3 : X.co.length * 50 ≤ 6 * 50 := Nat.mul_le_mul_right _ h2
  refine ⟨by omega, by omega, fun k => ?_, by have := h.rmw; omega, by have := h.data; omega, by have := h.ctrl; omega, by have := h.ctrli; omega⟩
  by_cases hk : k < X.co.length
  · have hm : X.co.getD k [] ∈ X.co := by
      rw [List.getD_eq_getElem?_getD, List.getElem?_eq_getElem hk]; exact List.getElem_mem hk
    have := h.cos _ hm; omega
  · rw [List.getD_eq_getElem?_getD, List.getElem?_eq_none (by omega)]; simp
set_option maxRecDepth 100000 in
set_option maxHeartbeats 8000000 in
theorem sg_check (S : GrFs F) {X : Gr} (hX : LenG X) : pureS F 152 [.agg (grC X)] = some (.b (gCheck X)) := by
  refine pure_of S.chk ?_
  have hR : gCheck X = (!decide (X.locs < 1) && (!decide (4 < X.locs) && (!decide (40 < (X.evs.length : Int)) && (!decide ((X.evs.length : Int) < X.locs) && (gFirst X && (gThr X && (gRf X && (gCo X && (gRmw X && (gList X mayD X.data && (gList X mayD X.ctrl && gList X mayD X.ctrli))))))))))) := rfl
  generalize gCheck X = R at hR
  by_cases c1 : X.locs < 1
  · obtain rfl : R = false := by rw [hR]; simp [c1]
    simp (disch := omega) only [A_graph_Check, wp, Nat.reduceAdd, Nat.reduceMul, Nat.reduceSub, gl, c1]
  by_cases c2 : 4 < X.locs
  · obtain rfl : R = false := by rw [hR]; simp [c2]
    simp (disch := omega) only [A_graph_Check, wp, Nat.reduceAdd, Nat.reduceMul, Nat.reduceSub, gl, c1, c2]
  by_cases c3 : 40 < (X.evs.length : Int)
  · obtain rfl : R = false := by rw [hR]; simp [c3]
    simp (disch := omega) only [A_graph_Check, wp, Nat.reduceAdd, Nat.reduceMul, Nat.reduceSub, gl, c1, c2, c3]
  by_cases c4 : (X.evs.length : Int) < X.locs
  · obtain rfl : R = false := by rw [hR]; simp [c4]
    simp (disch := omega) only [A_graph_Check, wp, Nat.reduceAdd, Nat.reduceMul, Nat.reduceSub, gl, c1, c2, c3, c4]
  have h5 := sg_first S.fst (X := X) (by omega) (by omega) (by omega)
  have h6 := sg_threads S.thr S.event (X := X) (by omega) (by omega) (by omega)
  have h7 := sg_rf S.rf S.write (X := X) (by omega)
  have h8 := sg_co S.co S.write (X := X) (by omega) hX.fl hX.col hX.cos
  have h9 := sg_rmw S.rmw S.rmw1 S.list S.order S.pc (X := X) (by omega) hX.rmw
  have h10 := sg_list S.list S.order S.pc (X := X) (by omega) (sg_mayD S.chk1) X.data hX.data
  have h11 := sg_list S.list S.order S.pc (X := X) (by omega) (sg_mayD S.chk1) X.ctrl hX.ctrl
  have h12 := sg_list S.list S.order S.pc (X := X) (by omega) (sg_mayD S.chk1) X.ctrli hX.ctrli
  have hR : R = (gFirst X && (gThr X && (gRf X && (gCo X && (gRmw X && (gList X mayD X.data && (gList X mayD X.ctrl && gList X mayD X.ctrli))))))) := by rw [hR]; simp [c1, c2, c3, c4]
  generalize gFirst X = b5 at h5 hR
  generalize gThr X = b6 at h6 hR
  generalize gRf X = b7 at h7 hR
  generalize gCo X = b8 at h8 hR
  generalize gRmw X = b9 at h9 hR
  generalize gList X mayD X.data = b10 at h10 hR
  generalize gList X mayD X.ctrl = b11 at h11 hR
  generalize gList X mayD X.ctrli = b12 at h12 hR
  subst hR
  cases b5
  · simp (disch := omega) only [A_graph_Check, wp, Nat.reduceAdd, Nat.reduceMul, Nat.reduceSub, gl, c1, c2, c3, c4, h5]
  cases b6
  · simp (disch := omega) only [A_graph_Check, wp, Nat.reduceAdd, Nat.reduceMul, Nat.reduceSub, gl, c1, c2, c3, c4, h5, h6]
  cases b7
  · simp (disch := omega) only [A_graph_Check, wp, Nat.reduceAdd, Nat.reduceMul, Nat.reduceSub, gl, c1, c2, c3, c4, h5, h6, h7]
  cases b8
  · simp (disch := omega) only [A_graph_Check, wp, Nat.reduceAdd, Nat.reduceMul, Nat.reduceSub, gl, c1, c2, c3, c4, h5, h6, h7, h8]
  cases b9
  · simp (disch := omega) only [A_graph_Check, wp, Nat.reduceAdd, Nat.reduceMul, Nat.reduceSub, gl, c1, c2, c3, c4, h5, h6, h7, h8, h9]
  cases b10
  · simp (disch := omega) only [A_graph_Check, wp, Nat.reduceAdd, Nat.reduceMul, Nat.reduceSub, gl, c1, c2, c3, c4, h5, h6, h7, h8, h9, h10]
  cases b11
  · simp (disch := omega) only [A_graph_Check, wp, Nat.reduceAdd, Nat.reduceMul, Nat.reduceSub, gl, c1, c2, c3, c4, h5, h6, h7, h8, h9, h10, h11]
  simp (disch := omega) only [A_graph_Check, wp, Nat.reduceAdd, Nat.reduceMul, Nat.reduceSub, gl, c1, c2, c3, c4, h5, h6, h7, h8, h9, h10, h11, h12]
end Go.Ab
end
section
set_option linter.unusedVariables false
set_option linter.unusedSimpArgs false
namespace Go.Ab
def sumN : Nat → (Nat → Nat) → Nat
  | 0, _ => 0
  | n + 1, f => sumN n f + f n
theorem sumN_le {f g : Nat → Nat} : ∀ n, (∀ i, i < n → f i ≤ g i) → sumN n f ≤ sumN n g
  | 0, _ => Nat.le_refl _
  | n + 1, h => Nat.add_le_add (sumN_le n fun i hi => h i (by omega)) (h n (by omega))
theorem sumN_eq {f g : Nat → Nat} : ∀ n, (∀ i, i < n → f i ≤ g i) → sumN n f = sumN n g → ∀ i, i < n → f i = g i
  | 0, _, _, i, hi => absurd hi (Nat.not_lt_zero _)
  | n + 1, h, e, i, hi => by
    have h1 := sumN_le n fun i hi => h i (by omega)
    have h2 := h n (by omega)
    simp only [sumN] at e
    by_cases hin : i = n
    · subst hin; omega
    · exact sumN_eq n (fun i hi => h i (by omega)) (by omega) i (by omega)
theorem sumN_congr {f g : Nat → Nat} : ∀ n, (∀ i, i < n → f i = g i) → sumN n f = sumN n g
  | 0, _ => rfl
  | n + 1, h => by simp only [sumN]; rw [sumN_congr n fun i hi => h i (by omega), h n (by omega)]
theorem sumN_add (f g : Nat → Nat) : ∀ n, sumN n (fun i => f i + g i) = sumN n f + sumN n g
  | 0 => rfl
  | n + 1 => by simp only [sumN]; rw [sumN_add f g n]; omega
theorem sumN_zero : ∀ n, sumN n (fun _ => 0) = 0
  | 0 => rfl
  | n + 1 => by simp only [sumN, sumN_zero n]
def at1 (b : Bool) : Nat := if b then 1 else 0
theorem sumN_one {a : Nat} : ∀ n, a < n → sumN n (fun i => at1 (decide (a = i))) = 1
  | 0, h => absurd h (Nat.not_lt_zero _)
  | n + 1, h => by
    simp only [sumN]
    by_cases hn : a = n
    · have : sumN n (fun i => at1 (decide (a = i))) = sumN n (fun _ => 0) := sumN_congr n fun i hi => by
        have : ¬ a = i := by omega
        simp [at1, this]
      rw [this, sumN_zero]
      simp [at1, hn]
    · rw [sumN_one n (by omega)]
      simp [at1, hn]
def cntL (l : List Int) (i : Nat) : Nat := (l.filter (· == (i : Int))).length
theorem cntL_sum {n : Nat} : ∀ {l : List Int}, (∀ w ∈ l, 0 ≤ w ∧ w < n) → sumN n (cntL l) = l.length
  | [], _ => sumN_zero n
  | w :: l, h => by
    obtain ⟨w0, wn⟩ := h w (List.mem_cons_self ..)
    have ih := cntL_sum (n := n) (l := l) fun x hx => h x (List.mem_cons_of_mem _ hx)
    have e : ∀ i, i < n → cntL (w :: l) i = cntL l i + at1 (decide (w.toNat = i)) := by
      intro i hi
      unfold cntL at1
      rw [List.filter_cons]
      by_cases hw : w.toNat = i
      · have : (w == (i : Int)) = true := by simp; omega
        rw [if_pos this, hw]; simp
      · have : ¬ (w == (i : Int)) = true := by simp; omega
        rw [if_neg this]; simp [hw]
    rw [sumN_congr n e, sumN_add, ih, sumN_one n (by omega)]
    rfl
theorem cntL_pos {l : List Int} {i : Nat} (h : 0 < cntL l i) : (i : Int) ∈ l := by
  unfold cntL at h
  obtain ⟨x, hx⟩ := List.exists_mem_of_length_pos h
  rw [List.mem_filter] at hx
  have : x = (i : Int) := by simpa using hx.2
  rw [← this]; exact hx.1
theorem cntL_one : ∀ {l : List Int} {i : Nat}, (∀ j, j < l.length → ∀ k, k < j → l.getD k 0 ≠ l.getD j 0) → cntL l i ≤ 1
  | [], _, _ => by simp [cntL]
  | w :: l, i, h => by
    have ih := cntL_one (l := l) (i := i) fun j hj k hk => by
      have := h (j + 1) (by simpa using hj) (k + 1) (by omega)
      simpa using this
    unfold cntL
    rw [List.filter_cons]
    by_cases hw : (w == (i : Int)) = true
    · rw [if_pos hw, List.length_cons]
      have hwi : w = (i : Int) := by simpa using hw
      have h0 : cntL l i = 0 := by
        by_cases hp : 0 < cntL l i
        · exfalso
          obtain ⟨j, hj, he⟩ := List.mem_iff_getElem.1 (cntL_pos hp)
          have := h (j + 1) (by simpa using hj) 0 (by omega)
          apply this
          rw [List.getD_cons_zero, List.getD_cons_succ, List.getD_eq_getElem?_getD, List.getElem?_eq_getElem hj, hwi, he]; rfl
        · omega
      unfold cntL at h0
      omega
    · rw [if_neg hw]; exact ih
theorem cntW_sum (X : Gr) (loc : Int) : ∀ n, n ≤ X.evs.length → cntW X loc n = sumN n (fun i => at1 (isWr loc (X.evs.getD i ev0)))
  | 0, _ => rfl
  | n + 1, h => by
    simp only [sumN]
    rw [cntW_succ (by omega), ← cntW_sum X loc n (by omega)]
    unfold at1
    split <;> rfl
theorem nEx_sum (X : Gr) : ∀ n, n ≤ X.evs.length → nEx X n = sumN n (fun i => at1 ((X.evs.getD i ev0).ex))
  | 0, _ => rfl
  | n + 1, h => by
    simp only [sumN]
    rw [nEx_succ (by omega), ← nEx_sum X n (by omega)]
    unfold at1
    split <;> rfl
theorem sum_wr {m : Nat} {e : Ev} (h : e.kd = 2 → 0 ≤ e.lc ∧ e.lc < m) : sumN m (fun k => at1 (isWr k e)) = at1 (e.kd == 2) := by
  cases c : (e.kd == 2)
  · have : sumN m (fun k => at1 (isWr k e)) = sumN m (fun _ => 0) := sumN_congr m fun i hi => by
      unfold isWr; rw [c]; rfl
    rw [this, sumN_zero]; rfl
  · obtain ⟨h0, h1⟩ := h (by simpa using c)
    have : sumN m (fun k => at1 (isWr k e)) = sumN m (fun i => at1 (decide (e.lc.toNat = i))) := sumN_congr m fun i hi => by
      unfold isWr; rw [c, Bool.true_and]
      congr 1
      rw [Bool.eq_iff_iff]
      simp
      omega
    rw [this, sumN_one m (by omega)]; rfl
theorem sum_swap (X : Gr) (m : Nat) (h : ∀ i, i < X.evs.length → (X.evs.getD i ev0).kd = 2 → 0 ≤ (X.evs.getD i ev0).lc ∧ (X.evs.getD i ev0).lc < m) : ∀ n, n ≤ X.evs.length → sumN m (fun k => cntW X k n) = nWr X n
  | 0, _ => by
    have : sumN m (fun k => cntW X k 0) = sumN m (fun _ => 0) := sumN_congr m fun i hi => rfl
    rw [this, sumN_zero]; rfl
  | n + 1, hn => by
    have ih := sum_swap X m h n (by omega)
    have e : ∀ k, k < m → cntW X k (n + 1) = cntW X k n + at1 (isWr k (X.evs.getD n ev0)) := by
      intro k hk
      rw [cntW_succ (by omega)]
      unfold at1
      split <;> rfl
    rw [sumN_congr m e, sumN_add, ih, sum_wr (h n (by omega)), nWr_succ (by omega)]
    unfold at1
    split <;> rfl
theorem coS'_len (X : Gr) : ∀ k, k ≤ X.co.length → (coS' X k 0).length = sumN k (fun i => (X.co.getD i []).length)
  | 0, _ => by simp [coS', sumN]
  | k + 1, h => by
    simp only [sumN]
    rw [← coS'_next (by omega), ← coS'_len X k (by omega)]
    unfold coS'
    simp
end Go.Ab
end
section
set_option linter.unusedVariables false
set_option linter.unusedSimpArgs false
namespace Go.Ab
theorem evIs_iff {a : Ev} {i : Int} : evIs a ⟨0, 2, 0, i, 0, false⟩ = true ↔ a.th = 0 ∧ a.kd = 2 ∧ a.md = 0 ∧ a.lc = i ∧ a.vl = 0 ∧ a.ex = false := by
  unfold evIs
  simp
def KindOk (locs : Int) (e : Ev) : Prop := (e.kd = 1 ∧ 0 ≤ e.lc ∧ e.lc < locs ∧ (e.md = 0 ∨ e.md = 1)) ∨ (e.kd = 2 ∧ 0 ≤ e.lc ∧ e.lc < locs ∧ (e.md = 0 ∨ e.md = 2)) ∨ (e.kd = 3 ∧ 1 ≤ e.md ∧ e.md ≤ 4 ∧ e.lc = 0 ∧ e.vl = 0 ∧ e.ex = false)
theorem gEv_iff {locs : Int} {e : Ev} : gEv locs e = true ↔ KindOk locs e := by
  unfold gEv KindOk
  by_cases c1 : e.kd = 1
  · simp [c1, and_assoc]
  by_cases c2 : e.kd = 2
  · simp [c2, and_assoc]
  · simp [c1, c2, and_assoc]
theorem drop_getD (X : Gr) (L k : Nat) : (X.evs.drop L).getD k ev0 = X.evs.getD (L + k) ev0 := by
  rw [List.getD_eq_getElem?_getD, List.getD_eq_getElem?_getD, List.getElem?_drop]
section
variable {X : Gr}
theorem evs_iff (h1 : 1 ≤ X.locs) (h2 : X.locs ≤ X.evs.length) : (gFirst X = true ∧ gThr X = true) ↔ ∀ i, i < X.evs.length → EvOk X.locs i (X.evs.getD (i - 1) ev0) (X.evs.getD i ev0) := by
  unfold gFirst gThr
  rw [allN_iff, allN_iff]
  have hL : ((X.locs.toNat : Nat) : Int) = X.locs := by omega
  generalize X.locs.toNat = L at hL
  constructor
  · rintro ⟨hf, ht⟩
    have ht' : ∀ k, k < X.evs.length - L → thrWas (X.evs.drop L) k ≤ (X.evs.getD (L + k) ev0).th ∧ (X.evs.getD (L + k) ev0).th ≤ 4 ∧ KindOk X.locs (X.evs.getD (L + k) ev0) := by
      intro k hk
      have := ht k hk
      unfold thrK at this
      simp only [Bool.and_eq_true, Bool.not_eq_true', decide_eq_false_iff_not, drop_getD, gEv_iff] at this
      exact ⟨by omega, by omega, this.2.2⟩
    have hone : ∀ k, k < X.evs.length - L → 1 ≤ (X.evs.getD (L + k) ev0).th := by
      intro k
      induction k with
      | zero =>
        intro hk
        have := (ht' 0 hk).1
        simpa [thrWas] using this
      | succ k ih =>
        intro hk
        have h0 := ih (by omega)
        have := (ht' (k + 1) hk).1
        unfold thrWas at this
        rw [if_neg (by omega), drop_getD, Nat.add_sub_cancel] at this
        omega
    intro i hi
    constructor
    · intro hl
      have := evIs_iff.1 (hf i (by omega))
      exact this
    · intro hl
      have e : L + (i - L) = i := by omega
      have hk := ht' (i - L) (by omega)
      have ho := hone (i - L) (by omega)
      rw [e] at hk ho
      refine ⟨ho, hk.2.1, ?_, hk.2.2⟩
      by_cases hz : i - L = 0
      · have hf' := evIs_iff.1 (hf (i - 1) (by omega))
        omega
      · have := hk.1
        unfold thrWas at this
        rw [if_neg hz, drop_getD] at this
        have e2 : L + (i - L - 1) = i - 1 := by omega
        rwa [e2] at this
  · intro hev
    constructor
    · intro i hi
      exact evIs_iff.2 ((hev i (by omega)).1 (by omega))
    · intro k hk
      have h := (hev (L + k) (by omega)).2 (by omega)
      unfold thrK
      simp only [Bool.and_eq_true, Bool.not_eq_true', decide_eq_false_iff_not, drop_getD, gEv_iff]
      refine ⟨?_, by omega, h.2.2.2⟩
      unfold thrWas
      by_cases hz : k = 0
      · rw [if_pos hz]; omega
      · rw [if_neg hz, drop_getD]
        have e2 : L + (k - 1) = L + k - 1 := by omega
        rw [e2]
        have := h.2.2.1
        omega
theorem gWr_iff {i loc : Int} : gWr X i loc = true ↔ 0 ≤ i ∧ i < X.evs.length ∧ (X.evs.getD i.toNat ev0).kd = 2 ∧ (X.evs.getD i.toNat ev0).lc = loc := by
  unfold gWr
  simp only [Bool.and_eq_true, decide_eq_true_eq, beq_iff_eq, and_assoc]
theorem rf_iff : gRf X = true ↔ X.rf.length = X.evs.length ∧ ∀ i, i < X.evs.length → RfOk X i := by
  unfold gRf
  rw [Bool.and_eq_true, allN_iff, beq_iff_eq]
  have key : ∀ i, rfK X i = true ↔ RfOk X i := by
    intro i
    unfold rfK RfOk
    generalize X.evs.getD i ev0 = e
    have hg := gWr_iff (X := X) (i := X.rf.getD i 0) (loc := e.lc)
    generalize X.rf.getD i 0 = w at hg
    generalize X.evs.getD w.toNat ev0 = x at hg
    by_cases c1 : e.kd = 1
    · cases c2 : gWr X w e.lc
      · rw [c2] at hg
        simp only [c1, bne_self_eq_false, Bool.false_and, Bool.not_false, beq_self_eq_true, Bool.true_and, Bool.true_or, Bool.not_true]
        constructor
        · intro h; cases h
        · rintro ⟨_, h⟩
          obtain ⟨h1, h2, h3, h4, h5⟩ := h trivial
          exact hg.2 ⟨h1, h2, h3, h4⟩
      · rw [c2] at hg
        obtain ⟨h1, h2, h3, h4⟩ := hg.1 rfl
        simp [c1, h1, h2, h3, h4]
    · simp [c1]
  constructor
  · rintro ⟨h1, h2⟩
    exact ⟨by omega, fun i hi => (key i).1 (h2 i hi)⟩
  · rintro ⟨h1, h2⟩
    exact ⟨by omega, fun i hi => (key i).2 (h2 i hi)⟩
theorem ordP_lt {p q : Int × Int} : ¬ 0 ≤ ordP p q ↔ lessP p q := by
  unfold ordP cmpI lessP
  by_cases c1 : p.1 < q.1
  · simp [c1]
  · by_cases c2 : q.1 < p.1
    · simp [c1, c2]; omega
    · have c3 : p.1 = q.1 := by omega
      by_cases c4 : p.2 < q.2
      · simp [c3, c4]
      · by_cases c5 : q.2 < p.2
        · simp [c3, c4, c5]
        · simp [c3, c4, c5]
theorem list_iff {may : Ev → Ev → Bool} {l : List (Int × Int)} : gList X may l = true ↔ (∀ i, i < l.length → 0 ≤ (l.getD i (0, 0)).1 ∧ (l.getD i (0, 0)).1 < (l.getD i (0, 0)).2 ∧ (l.getD i (0, 0)).2 < X.evs.length ∧ may (X.evs.getD (l.getD i (0, 0)).1.toNat ev0) (X.evs.getD (l.getD i (0, 0)).2.toNat ev0) = true) ∧ Rising l := by
  unfold gList
  rw [allN_iff]
  have key : ∀ i, lsK X may l i = true ↔ (0 ≤ (l.getD i (0, 0)).1 ∧ (l.getD i (0, 0)).1 < (l.getD i (0, 0)).2 ∧ (l.getD i (0, 0)).2 < X.evs.length ∧ may (X.evs.getD (l.getD i (0, 0)).1.toNat ev0) (X.evs.getD (l.getD i (0, 0)).2.toNat ev0) = true) ∧ (0 < i → lessP (l.getD (i - 1) (0, 0)) (l.getD i (0, 0))) := by
    intro i
    have ho := ordP_lt (p := l.getD (i - 1) (0, 0)) (q := l.getD i (0, 0))
    unfold lsK
    simp only [Bool.and_eq_true, Bool.not_eq_true', decide_eq_false_iff_not, Bool.and_eq_false_iff]
    constructor
    · rintro ⟨h1, h2, h3, h4, h5⟩
      exact ⟨⟨by omega, by omega, by omega, h5⟩, fun hi => ho.1 (h4.resolve_left (by omega))⟩
    · rintro ⟨⟨h1, h2, h3, h5⟩, h4⟩
      refine ⟨by omega, by omega, by omega, ?_, h5⟩
      by_cases hi : 0 < i
      · exact .inr (ho.2 (h4 hi))
      · exact .inl hi
  constructor
  · intro h
    refine ⟨fun i hi => ((key i).1 (h i hi)).1, fun i hi => ?_⟩
    have := ((key (i + 1)).1 (h (i + 1) hi)).2 (by omega)
    rwa [Nat.add_sub_cancel] at this
  · rintro ⟨h1, h2⟩ i hi
    refine (key i).2 ⟨h1 i hi, fun h0 => ?_⟩
    have := h2 (i - 1) (by omega)
    have e : i - 1 + 1 = i := by omega
    rwa [e] at this
theorem deps_iff {l : List (Int × Int)} : gList X mayD l = true ↔ DepsOk X l := by
  rw [list_iff]
  unfold DepsOk DepOk mayD
  simp only [Bool.and_eq_true, beq_iff_eq]
end
theorem gd {l : List Int} {j : Nat} (hj : j < l.length) : l.getD j 0 = l[j] := by rw [List.getD_eq_getElem?_getD, List.getElem?_eq_getElem hj]; rfl
theorem gd_take {l : List Int} {m j : Nat} (hm : m < j) (hj : j ≤ l.length) : l.getD m 0 ∈ l.take j := by
  rw [gd (by omega)]
  exact List.mem_take_iff_getElem.2 ⟨m, by omega, rfl⟩
section
variable {X : Gr} (hE : ∀ i, i < X.evs.length → EvOk X.locs i (X.evs.getD (i - 1) ev0) (X.evs.getD i ev0))
include hE
theorem wr_loc (hl : (X.co.length : Int) = X.locs) {i : Nat} (hi : i < X.evs.length) (hk : (X.evs.getD i ev0).kd = 2) : 0 ≤ (X.evs.getD i ev0).lc ∧ (X.evs.getD i ev0).lc < X.co.length := by
  obtain ⟨h1, h2⟩ := hE i hi
  by_cases h : (i : Int) < X.locs
  · have := (h1 h).2.2.2.1
    omega
  · have := (h2 h).2.2.2
    omega
theorem co_iff : gCo X = true ↔ (X.co.length : Int) = X.locs ∧ ∀ k, k < X.co.length → CoOk X k := by
  unfold gCo
  rw [Bool.and_eq_true, Bool.and_eq_true, allN_iff, beq_iff_eq, beq_iff_eq]
  have hflat : X.co.flatten.length = sumN X.co.length (fun i => (X.co.getD i []).length) := by
    rw [← coS'_end X, coS'_len X _ (Nat.le_refl _)]
  constructor
  · rintro ⟨hl, hK, hT⟩
    refine ⟨hl, ?_⟩
    have hsw := sum_swap X X.co.length (fun i hi hk => wr_loc hE hl hi hk) X.evs.length (Nat.le_refl _)
    have hk : ∀ k, k < X.co.length → 0 < (X.co.getD k []).length ∧ (X.co.getD k []).getD 0 0 = (k : Int) ∧ ∀ j, j < (X.co.getD k []).length → (0 ≤ (X.co.getD k []).getD j 0 ∧ (X.co.getD k []).getD j 0 < X.evs.length ∧ (X.evs.getD ((X.co.getD k []).getD j 0).toNat ev0).kd = 2 ∧ (X.evs.getD ((X.co.getD k []).getD j 0).toNat ev0).lc = k) ∧ ¬ (X.co.getD k []).getD j 0 ∈ coS' X k j := by
      intro k hk
      have := hK k hk
      unfold coK at this
      simp only [Bool.and_eq_true, Bool.not_eq_true', beq_eq_false_iff_ne, ne_eq, bne_eq_false_iff_eq, allN_iff] at this
      obtain ⟨h1, h2, h3⟩ := this
      refine ⟨by omega, h2, fun j hj => ?_⟩
      have := h3 j hj
      unfold ciK at this
      simp only [Bool.and_eq_true, Bool.not_eq_true', gWr_iff] at this
      refine ⟨this.1, fun hm => ?_⟩
      have h4 := this.2
      rw [List.contains_iff_mem.2 hm] at h4
      cases h4
    have hne : ∀ k, k < X.co.length → ∀ j, j < (X.co.getD k []).length → ∀ m, m < j → (X.co.getD k []).getD m 0 ≠ (X.co.getD k []).getD j 0 := by
      intro k hk' j hj m hm he
      apply ((hk k hk').2.2 j hj).2
      rw [← he]
      unfold coS'
      exact List.mem_append_right _ (gd_take hm (by omega))
    have hle : ∀ k, k < X.co.length → (X.co.getD k []).length ≤ cntW X k X.evs.length := by
      intro k hk'
      have hin : ∀ w ∈ X.co.getD k [], 0 ≤ w ∧ w < (X.evs.length : Int) := by
        intro w hw
        obtain ⟨j, hj, he⟩ := List.mem_iff_getElem.1 hw
        have := ((hk k hk').2.2 j hj).1
        rw [gd hj, he] at this
        exact ⟨this.1, this.2.1⟩
      rw [← cntL_sum hin, cntW_sum X k _ (Nat.le_refl _)]
      refine sumN_le _ fun i hi => ?_
      by_cases hp : 0 < cntL (X.co.getD k []) i
      · have h1 := cntL_one (i := i) (hne k hk')
        obtain ⟨j, hj, he⟩ := List.mem_iff_getElem.1 (cntL_pos hp)
        have := ((hk k hk').2.2 j hj).1
        rw [gd hj, he, Int.toNat_natCast] at this
        have hw : isWr k (X.evs.getD i ev0) = true := by
          unfold isWr
          rw [this.2.2.1, this.2.2.2]
          simp
        rw [hw]
        exact h1
      · omega
    have heq := sumN_eq X.co.length hle (by omega)
    intro k hk'
    obtain ⟨h1, h2, h3⟩ := hk k hk'
    exact ⟨fun j hj => (h3 j hj).1, hne k hk', heq k hk', h1, h2⟩
  · rintro ⟨hl, hK⟩
    have hsw := sum_swap X X.co.length (fun i hi hk => wr_loc hE hl hi hk) X.evs.length (Nat.le_refl _)
    refine ⟨hl, fun k hk => ?_, ?_⟩
    · obtain ⟨h1, h2, h3, h4, h5⟩ := hK k hk
      unfold coK
      simp only [Bool.and_eq_true, Bool.not_eq_true', beq_eq_false_iff_ne, ne_eq, bne_eq_false_iff_eq, allN_iff]
      refine ⟨by omega, h5, fun j hj => ?_⟩
      unfold ciK
      simp only [Bool.and_eq_true, Bool.not_eq_true', gWr_iff]
      refine ⟨h1 j hj, ?_⟩
      cases c : (coS' X k j).contains ((X.co.getD k []).getD j 0)
      · rfl
      · exfalso
        have hm := List.contains_iff_mem.1 c
        unfold coS' at hm
        rcases List.mem_append.1 hm with hm | hm
        · obtain ⟨l, hl', hm⟩ := List.mem_flatten.1 hm
          obtain ⟨k', hk', he⟩ := List.mem_take_iff_getElem.1 hl'
          obtain ⟨m, hm', he'⟩ := List.mem_iff_getElem.1 hm
          have hkk : k' < X.co.length := by omega
          have hg : X.co.getD k' [] = l := by rw [List.getD_eq_getElem?_getD, List.getElem?_eq_getElem hkk]; exact he
          have h6 := (hK k' hkk).wr m (by rw [hg]; exact hm')
          rw [hg, gd hm', he'] at h6
          have h7 := (h1 j hj).2.2.2
          rw [h6.2.2.2] at h7
          omega
        · obtain ⟨m, hm', he⟩ := List.mem_take_iff_getElem.1 hm
          have := h2 j hj m (by omega)
          apply this
          rw [← he, gd (by omega)]
    · have := sumN_congr (f := fun i => (X.co.getD i []).length) (g := fun k => cntW X k X.evs.length) X.co.length fun k hk => (hK k hk).len
      omega
end
theorem inC_sum {n : Nat} : ∀ {l : List (Int × Int)}, (∀ p ∈ l, 0 ≤ p.1 ∧ p.2 = p.1 + 1 ∧ p.2 < n) → sumN n (inC l) = 2 * l.length
  | [], _ => sumN_zero n
  | p :: l, h => by
    obtain ⟨p0, p1, p2⟩ := h p (List.mem_cons_self ..)
    have ih := inC_sum (n := n) (l := l) fun x hx => h x (List.mem_cons_of_mem _ hx)
    have e : ∀ i, i < n → inC (p :: l) i = inC l i + (at1 (decide (p.1.toNat = i)) + at1 (decide (p.2.toNat = i))) := by
      intro i hi
      unfold inC inB at1
      rw [List.filter_cons]
      by_cases h1 : p.1 = (i : Int)
      · have h2 : ¬ p.2 = (i : Int) := by omega
        have h3 : p.1.toNat = i := by omega
        have h4 : ¬ p.2.toNat = i := by omega
        simp [h1, h4]
      · have h3 : ¬ p.1.toNat = i := by omega
        by_cases h2 : p.2 = (i : Int)
        · have h4 : p.2.toNat = i := by omega
          simp [h2, h3]
        · have h4 : ¬ p.2.toNat = i := by omega
          simp [h1, h2, h3, h4]
    rw [sumN_congr n e, sumN_add, sumN_add, ih, sumN_one n (by omega), sumN_one n (by omega), List.length_cons]
    omega
theorem inC_pos {l : List (Int × Int)} {i : Nat} (h : 0 < inC l i) : ∃ j, j < l.length ∧ inB i (l.getD j (0, 0)) = true := by
  unfold inC at h
  obtain ⟨x, hx⟩ := List.exists_mem_of_length_pos h
  rw [List.mem_filter] at hx
  obtain ⟨j, hj, he⟩ := List.mem_iff_getElem.1 hx.1
  refine ⟨j, hj, ?_⟩
  rw [List.getD_eq_getElem?_getD, List.getElem?_eq_getElem hj, Option.getD_some, he]
  exact hx.2
theorem inC_one : ∀ {l : List (Int × Int)} {i : Nat}, (∀ j, j < l.length → ∀ k, k < j → inB i (l.getD k (0, 0)) = true → inB i (l.getD j (0, 0)) = true → False) → inC l i ≤ 1
  | [], _, _ => by simp [inC]
  | p :: l, i, h => by
    have ih := inC_one (l := l) (i := i) fun j hj k hk => by
      have := h (j + 1) (by simpa using hj) (k + 1) (by omega)
      simpa using this
    unfold inC
    rw [List.filter_cons]
    by_cases hp : inB i p = true
    · rw [if_pos hp, List.length_cons]
      have h0 : inC l i = 0 := by
        by_cases hq : 0 < inC l i
        · exfalso
          obtain ⟨j, hj, he⟩ := inC_pos hq
          exact h (j + 1) (by simpa using hj) 0 (by omega) hp he
        · omega
      unfold inC at h0
      omega
    · rw [if_neg hp]; exact ih
theorem inC_two {l : List (Int × Int)} {i k : Nat} (hk : k + 1 < l.length) (h1 : inB i (l.getD k (0, 0)) = true) (h2 : inB i (l.getD (k + 1) (0, 0)) = true) : 2 ≤ inC l i := by
  have e1 := inC_take (l := l) (k := k) (by omega) i
  have e2 := inC_take hk i
  rw [h1, if_pos rfl] at e1
  rw [h2, if_pos rfl] at e2
  have : inC (l.take (k + 1 + 1)) i ≤ inC l i := by
    unfold inC
    exact ((List.take_sublist _ _).filter _).length_le
  omega
theorem inB_iff {i : Nat} {p : Int × Int} : inB i p = true ↔ p.1 = i ∨ p.2 = i := by
  unfold inB
  rw [Bool.or_eq_true, beq_iff_eq, beq_iff_eq]
theorem mayR_iff {a b : Ev} : mayR a b = true ↔ a.th = b.th ∧ a.kd = 1 ∧ b.kd = 2 ∧ a.lc = b.lc ∧ a.ex = true ∧ b.ex = true := by
  unfold mayR
  simp only [Bool.and_eq_true, beq_iff_eq]
  constructor
  · rintro ⟨⟨⟨⟨⟨h1, h2⟩, h3⟩, h4⟩, h5⟩, h6⟩
    exact ⟨h6, h1, h2, h3, h4, h5⟩
  · rintro ⟨h6, h1, h2, h3, h4, h5⟩
    exact ⟨⟨⟨⟨⟨h1, h2⟩, h3⟩, h4⟩, h5⟩, h6⟩
theorem rmw_iff {X : Gr} : gRmw X = true ↔ RmwOk X := by
  unfold gRmw
  rw [Bool.and_eq_true, Bool.and_eq_true, allN_iff, beq_iff_eq, list_iff]
  have hmem : ∀ {P : Int × Int → Prop}, (∀ j, j < X.rmw.length → P (X.rmw.getD j (0, 0))) → ∀ p ∈ X.rmw, P p := by
    intro P h p hp
    obtain ⟨j, hj, he⟩ := List.mem_iff_getElem.1 hp
    have := h j hj
    rwa [List.getD_eq_getElem?_getD, List.getElem?_eq_getElem hj, Option.getD_some, he] at this
  constructor
  · rintro ⟨⟨hL, hr⟩, hK, hE⟩
    have hK' : ∀ k, k < X.rmw.length → (X.rmw.getD k (0, 0)).2 = (X.rmw.getD k (0, 0)).1 + 1 ∧ rmLast X k < (X.rmw.getD k (0, 0)).1 := by
      intro k hk
      have := hK k hk
      unfold rmK at this
      simp only [Bool.and_eq_true, Bool.not_eq_true', bne_eq_false_iff_eq, decide_eq_false_iff_not] at this
      exact ⟨this.1, by omega⟩
    have hpair : ∀ j, j < X.rmw.length → PairOk X (X.rmw.getD j (0, 0)) := by
      intro j hj
      obtain ⟨h1, h2, h3, h4⟩ := hL j hj
      obtain ⟨h5, h6, h7, h8, h9, h10⟩ := mayR_iff.1 h4
      have := (hK' j hj).1
      exact ⟨h1, by omega, this, h5, h6, h7, h8, h9, h10⟩
    have hmono : ∀ j, j < X.rmw.length → ∀ k, k < j → (X.rmw.getD k (0, 0)).2 < (X.rmw.getD j (0, 0)).1 := by
      intro j
      induction j with
      | zero => intro _ k hk; omega
      | succ j ih =>
        intro hj k hk
        have h1 := (hK' (j + 1) hj).2
        unfold rmLast at h1
        rw [if_neg (by omega), Nat.add_sub_cancel] at h1
        by_cases hkj : k = j
        · subst hkj; exact h1
        · have h2 := ih (by omega) k (by omega)
          have h3 := (hK' j (by omega)).1
          omega
    have hone : ∀ i, inC X.rmw i ≤ 1 := fun i => inC_one fun j hj k hk h1 h2 => by
      have h3 := hmono j hj k hk
      have h4 := (hK' j hj).1
      have h5 := (hK' k (by omega)).1
      rw [inB_iff] at h1 h2
      omega
    have hsum := inC_sum (n := X.evs.length) (l := X.rmw) (hmem fun j hj => ⟨(hL j hj).1, (hK' j hj).1, (hL j hj).2.2.1⟩)
    have hle : ∀ i, i < X.evs.length → inC X.rmw i ≤ at1 ((X.evs.getD i ev0).ex) := by
      intro i hi
      by_cases hp : 0 < inC X.rmw i
      · obtain ⟨j, hj, hb'⟩ := inC_pos hp
        rw [inB_iff] at hb'
        obtain ⟨p1, p2, p3, p4, p5, p6, p7, p8, p9⟩ := hpair j hj
        have hex : (X.evs.getD i ev0).ex = true := by
          rcases hb' with hb' | hb'
          · rw [hb', Int.toNat_natCast] at p8; exact p8
          · rw [hb', Int.toNat_natCast] at p9; exact p9
        rw [hex]
        exact hone i
      · omega
    have heq := sumN_eq X.evs.length hle (by rw [← nEx_sum X _ (Nat.le_refl _)]; omega)
    refine ⟨hpair, fun i hi => ⟨hone i, ?_⟩, hr⟩
    rw [heq i hi]
    cases (X.evs.getD i ev0).ex <;> rfl
  · rintro ⟨hp, ho, hr⟩
    refine ⟨⟨fun j hj => ?_, hr⟩, fun k hk => ?_, ?_⟩
    · obtain ⟨p1, p2, p3, p4, p5, p6, p7, p8, p9⟩ := hp j hj
      exact ⟨p1, by omega, by omega, mayR_iff.2 ⟨p4, p5, p6, p7, p8, p9⟩⟩
    · obtain ⟨p1, p2, p3, _⟩ := hp k hk
      unfold rmK
      simp only [Bool.and_eq_true, Bool.not_eq_true', bne_eq_false_iff_eq, decide_eq_false_iff_not]
      refine ⟨p3, ?_⟩
      unfold rmLast
      by_cases h0 : k = 0
      · rw [if_pos h0]; omega
      · rw [if_neg h0]
        have e : k - 1 + 1 = k := by omega
        have h1 := hr (k - 1) (by omega)
        rw [e] at h1
        obtain ⟨q1, q2, q3, _⟩ := hp (k - 1) (by omega)
        intro hle
        have h2 : (X.rmw.getD (k - 1) (0, 0)).2 = (X.rmw.getD k (0, 0)).1 := by
          rcases h1 with h1 | h1
          · omega
          · omega
        have h3 := (ho (X.rmw.getD k (0, 0)).1.toNat (by omega)).1
        have h4 := inC_two (l := X.rmw) (i := (X.rmw.getD k (0, 0)).1.toNat) (k := k - 1) (by omega) (inB_iff.2 (.inr (by omega))) (by rw [e]; exact inB_iff.2 (.inl (by omega)))
        omega
    · have hsum := inC_sum (n := X.evs.length) (l := X.rmw) (hmem fun j hj => by
        obtain ⟨p1, p2, p3, _⟩ := hp j hj
        exact ⟨p1, p3, by omega⟩)
      have : sumN X.evs.length (fun i => at1 ((X.evs.getD i ev0).ex)) = sumN X.evs.length (inC X.rmw) := sumN_congr _ fun i hi => by
        obtain ⟨h1, h2⟩ := ho i hi
        rw [h2]
        have : inC X.rmw i = 0 ∨ inC X.rmw i = 1 := by omega
        rcases this with h | h <;> rw [h] <;> rfl
      rw [nEx_sum X _ (Nat.le_refl _), this, hsum]
      omega
theorem gCheck_iff {X : Gr} : gCheck X = true ↔ GraphOk X := by
  unfold gCheck
  simp only [Bool.and_eq_true, Bool.not_eq_true', decide_eq_false_iff_not]
  constructor
  · rintro ⟨h1, h2, h3, h4, h5, h6, h7, h8, h9, h10, h11, h12⟩
    have hev := (evs_iff (X := X) (by omega) (by omega)).1 ⟨h5, h6⟩
    obtain ⟨hr1, hr2⟩ := rf_iff.1 h7
    obtain ⟨hc1, hc2⟩ := (co_iff hev).1 h8
    exact ⟨by omega, by omega, by omega, by omega, hr1, hc1, hev, hr2, hc2, rmw_iff.1 h9, deps_iff.1 h10, deps_iff.1 h11, deps_iff.1 h12⟩
  · rintro ⟨l1, l4, nl, n40, hrl, hcl, hev, hrf, hco, hrm, hda, hct, hci⟩
    obtain ⟨h5, h6⟩ := (evs_iff (X := X) (by omega) (by omega)).2 hev
    exact ⟨by omega, by omega, by omega, by omega, h5, h6, rf_iff.2 ⟨hrl, hrf⟩, (co_iff hev).2 ⟨hcl, hco⟩, rmw_iff.2 hrm, deps_iff.2 hda, deps_iff.2 hct, deps_iff.2 hci⟩
end Go.Ab
end
section
set_option linter.unusedVariables false
set_option linter.unusedSimpArgs false
namespace Go.Ab
variable {F : Funs}
theorem thaw27 (h27 : F 27 = some A_xref01_New) {n : Nat} (hn : n ≤ 40) (al : Nat → Bool) (id : Nat) (g : G) : vThaw F al id (.fn 27 [] []) [.i .i64 n, .sl [] 0 .rig] g = some (.mp id 0, ⟨upd g.hp id (some (.cells (matC n fun _ _ => false) false)), g.nx⟩) :=
  vThaw_S (bs := [.i .i64 n, .sl [] 0 .non]) (by rw [frzL_cons, frzL_cons, frzL_nil, frz_d_i, frz_d_sl]; rfl) (sp_newT h27 hn .non) (by rw [List.flatMap_cons, List.flatMap_cons, vis_i, vis_sl]; rfl)
def stM (φ : Bool → Bool → Bool) (A B : Mx) (N a b : Nat) : Mx := fun i j => if (i < a ∧ j < N) ∨ (i = a ∧ j < b) then φ (A i j) (B i j) else false
theorem stM_succ (φ A B N a b) : upd2 (stM φ A B N a b) a b (φ (A a b) (B a b)) = stM φ A B N a (b + 1) := by
  funext i j
  unfold upd2 stM
  by_cases h : i = a ∧ j = b
  · obtain ⟨rfl, rfl⟩ := h
    rw [if_pos ⟨rfl, rfl⟩, if_pos (.inr ⟨rfl, by omega⟩)]
  · rw [if_neg h]
    by_cases h2 : (i < a ∧ j < N) ∨ (i = a ∧ j < b)
    · rw [if_pos h2, if_pos (by omega)]
    · rw [if_neg h2, if_neg (by omega)]
theorem stM_row (φ A B N a) : stM φ A B N a N = stM φ A B N (a + 1) 0 := by
  funext i j
  unfold stM
  by_cases h2 : (i < a ∧ j < N) ∨ (i = a ∧ j < N)
  · rw [if_pos h2, if_pos (by omega)]
  · rw [if_neg h2, if_neg (by omega)]
theorem stM_0 (φ A B N) : stM φ A B N 0 0 = fun _ _ => false := by
  funext i j
  unfold stM
  rw [if_neg (by omega)]
def opM (φ : Bool → Bool → Bool) (A B : Mx) (N : Nat) : Mx := stM φ A B N N 0
set_option maxRecDepth 100000 in
set_option maxHeartbeats 4000000 in
theorem sp_mor (h : F 29 = some A_xref01_R_Or) (h27 : F 27 = some A_xref01_New) {n m : Nat} (hn : n ≤ 40) (hm : m ≤ 40) (A B : Mx) : pureS F 29 [.ptr (matC n A), .ptr (matC m B)] = some (.ptr (matC (max n m) (opM (fun x y => x || y) A B (max n m)))) := by
  refine pure_of_thaw h (matC_flat _ _) ?_
  have hN : max n m ≤ 40 := by omega
  simp (disch := omega) only [A_xref01_R_Or, wp, Nat.reduceAdd, Nat.reduceMul, Nat.reduceSub, ml, maxI, thaw27 h27]
  generalize max n m = N at hN
  refine W_loop (fun q e g => ∃ a, q = N - a ∧ a ≤ N ∧ e 0 = .ptr (matC n A) ∧ e 1 = .ptr (matC m B) ∧ e 5 = .mp 10 0 ∧ e 6 = .i .i64 a ∧ g.hp 10 = some (.cells (matC N (stM (fun x y => x || y) A B N a 0)) false) ∧ 10 < g.nx) N ?_ ?_
  · refine ⟨0, rfl, Nat.zero_le _, ?_⟩
    simp (disch := omega) only [wp, Nat.reduceAdd, Nat.reduceMul, Nat.reduceSub, stM_0]
    exact ⟨rfl, by first | omega | (dsimp only; omega)⟩
  · rintro q e g ⟨a, rfl, ha, h0, h1, h5, h6, hg, hnx⟩
    by_cases ha' : a < N
    · have ha1 : (a : Int) < N := by omega
      have hwa := succ_wrap (k := a) (by omega)
      simp (disch := omega) only [wp, Nat.reduceAdd, Nat.reduceMul, Nat.reduceSub, ml, h0, h1, h5, h6, hg, ha1]
      refine W_loop (fun q e g => ∃ b, q = N - b ∧ b ≤ N ∧ e 0 = .ptr (matC n A) ∧ e 1 = .ptr (matC m B) ∧ e 5 = .mp 10 0 ∧ e 6 = .i .i64 a ∧ e 7 = .i .i64 b ∧ g.hp 10 = some (.cells (matC N (stM (fun x y => x || y) A B N a b)) false) ∧ 10 < g.nx) N ?_ ?_
      · refine ⟨0, rfl, Nat.zero_le _, ?_⟩
        simp (disch := omega) only [wp, Nat.reduceAdd, Nat.reduceMul, Nat.reduceSub, h0, h1, h5, h6, hg]
        exact ⟨rfl, by first | omega | (dsimp only; omega)⟩
      · rintro q e g ⟨b, rfl, hb, h0, h1, h5, h6, h7, hg, hnx⟩
        by_cases hb' : b < N
        · have hb1 : (b : Int) < N := by omega
          have hwb := succ_wrap (k := b) (by omega)
          have hs := stM_succ (fun x y => x || y) A B N a b
          cases hA : A a b with
          | true =>
            simp only [hA, Bool.true_or, Bool.true_and] at hs
            simp (disch := omega) only [wp, Nat.reduceAdd, Nat.reduceMul, Nat.reduceSub, ml, h0, h1, h5, h6, h7, hg, hb1, hA, hwb, hs]
            exact ⟨N - (b + 1), by omega, b + 1, rfl, by omega, rfl, rfl, by first | omega | (dsimp only; omega)⟩
          | false =>
            simp only [hA, Bool.false_or, Bool.false_and] at hs
            simp (disch := omega) only [wp, Nat.reduceAdd, Nat.reduceMul, Nat.reduceSub, ml, h0, h1, h5, h6, h7, hg, hb1, hA, hwb, hs]
            exact ⟨N - (b + 1), by omega, b + 1, rfl, by omega, rfl, rfl, by first | omega | (dsimp only; omega)⟩
        · obtain rfl : b = N := by omega
          have hb1 : ¬ ((b : Int) < b) := by omega
          rw [stM_row] at hg
          simp (disch := omega) only [wp, Nat.reduceAdd, Nat.reduceMul, Nat.reduceSub, ml, h0, h1, h5, h6, h7, hg, hb1, hwa]
          exact ⟨b - (a + 1), by omega, a + 1, rfl, by omega, rfl, rfl, by first | omega | (dsimp only; omega)⟩
    · obtain rfl : a = N := by omega
      have ha1 : ¬ ((a : Int) < a) := by omega
      simp (disch := omega) only [wp, Nat.reduceAdd, Nat.reduceMul, Nat.reduceSub, ml, h0, h1, h5, h6, hg, ha1]
      exact ⟨10, rfl, hg⟩
set_option maxRecDepth 100000 in
set_option maxHeartbeats 4000000 in
theorem sp_mand (h : F 30 = some A_xref01_R_And) (h27 : F 27 = some A_xref01_New) {n m : Nat} (hn : n ≤ 40) (hm : m ≤ 40) (A B : Mx) : pureS F 30 [.ptr (matC n A), .ptr (matC m B)] = some (.ptr (matC (max n m) (opM (fun x y => x && y) A B (max n m)))) := by
  refine pure_of_thaw h (matC_flat _ _) ?_
  have hN : max n m ≤ 40 := by omega
  simp (disch := omega) only [A_xref01_R_And, wp, Nat.reduceAdd, Nat.reduceMul, Nat.reduceSub, ml, maxI, thaw27 h27]
  generalize max n m = N at hN
  refine W_loop (fun q e g => ∃ a, q = N - a ∧ a ≤ N ∧ e 0 = .ptr (matC n A) ∧ e 1 = .ptr (matC m B) ∧ e 5 = .mp 10 0 ∧ e 6 = .i .i64 a ∧ g.hp 10 = some (.cells (matC N (stM (fun x y => x && y) A B N a 0)) false) ∧ 10 < g.nx) N ?_ ?_
  · refine ⟨0, rfl, Nat.zero_le _, ?_⟩
    simp (disch := omega) only [wp, Nat.reduceAdd, Nat.reduceMul, Nat.reduceSub, stM_0]
    exact ⟨rfl, by first | omega | (dsimp only; omega)⟩
  · rintro q e g ⟨a, rfl, ha, h0, h1, h5, h6, hg, hnx⟩
    by_cases ha' : a < N
    · have ha1 : (a : Int) < N := by omega
      have hwa := succ_wrap (k := a) (by omega)
      simp (disch := omega) only [wp, Nat.reduceAdd, Nat.reduceMul, Nat.reduceSub, ml, h0, h1, h5, h6, hg, ha1]
      refine W_loop (fun q e g => ∃ b, q = N - b ∧ b ≤ N ∧ e 0 = .ptr (matC n A) ∧ e 1 = .ptr (matC m B) ∧ e 5 = .mp 10 0 ∧ e 6 = .i .i64 a ∧ e 7 = .i .i64 b ∧ g.hp 10 = some (.cells (matC N (stM (fun x y => x && y) A B N a b)) false) ∧ 10 < g.nx) N ?_ ?_
      · refine ⟨0, rfl, Nat.zero_le _, ?_⟩
        simp (disch := omega) only [wp, Nat.reduceAdd, Nat.reduceMul, Nat.reduceSub, h0, h1, h5, h6, hg]
        exact ⟨rfl, by first | omega | (dsimp only; omega)⟩
      · rintro q e g ⟨b, rfl, hb, h0, h1, h5, h6, h7, hg, hnx⟩
        by_cases hb' : b < N
        · have hb1 : (b : Int) < N := by omega
          have hwb := succ_wrap (k := b) (by omega)
          have hs := stM_succ (fun x y => x && y) A B N a b
          cases hA : A a b with
          | true =>
            simp only [hA, Bool.true_or, Bool.true_and] at hs
            simp (disch := omega) only [wp, Nat.reduceAdd, Nat.reduceMul, Nat.reduceSub, ml, h0, h1, h5, h6, h7, hg, hb1, hA, hwb, hs]
            exact ⟨N - (b + 1), by omega, b + 1, rfl, by omega, rfl, rfl, by first | omega | (dsimp only; omega)⟩
          | false =>
            simp only [hA, Bool.false_or, Bool.false_and] at hs
            simp (disch := omega) only [wp, Nat.reduceAdd, Nat.reduceMul, Nat.reduceSub, ml, h0, h1, h5, h6, h7, hg, hb1, hA, hwb, hs]
            exact ⟨N - (b + 1), by omega, b + 1, rfl, by omega, rfl, rfl, by first | omega | (dsimp only; omega)⟩
        · obtain rfl : b = N := by omega
          have hb1 : ¬ ((b : Int) < b) := by omega
          rw [stM_row] at hg
          simp (disch := omega) only [wp, Nat.reduceAdd, Nat.reduceMul, Nat.reduceSub, ml, h0, h1, h5, h6, h7, hg, hb1, hwa]
          exact ⟨b - (a + 1), by omega, a + 1, rfl, by omega, rfl, rfl, by first | omega | (dsimp only; omega)⟩
    · obtain rfl : a = N := by omega
      have ha1 : ¬ ((a : Int) < a) := by omega
      simp (disch := omega) only [wp, Nat.reduceAdd, Nat.reduceMul, Nat.reduceSub, ml, h0, h1, h5, h6, hg, ha1]
      exact ⟨10, rfl, hg⟩
end Go.Ab
end
section
set_option linter.unusedVariables false
set_option linter.unusedSimpArgs false
namespace Go.Ab
variable {F : Funs}
def t1M (A B : Mx) (a b c : Nat) (T : Mx) : Mx := fun i j => if i = a ∧ j < c then T i j || B b j else T i j
def t2M (A B : Mx) (N a : Nat) (T : Mx) (b : Nat) : Mx := if A a b then t1M A B a b N T else T
def t3M (A B : Mx) (N a k : Nat) (T : Mx) : Mx := (List.range k).foldl (t2M A B N a) T
def thM (A B : Mx) (N k : Nat) : Mx := (List.range k).foldl (fun T a => t3M A B N a N T) (fun _ _ => false)
theorem t3M_succ (A B N a k T) : t3M A B N a (k + 1) T = t2M A B N a (t3M A B N a k T) k := by simp [t3M, List.range_succ]
theorem thM_succ (A B N k) : thM A B N (k + 1) = t3M A B N k N (thM A B N k) := by simp [thM, List.range_succ]
theorem t1M_succ (A B a b c T) : upd2 (t1M A B a b c T) a c (T a c || B b c) = t1M A B a b (c + 1) T := by
  funext i j
  unfold upd2 t1M
  by_cases h : i = a ∧ j = c
  · obtain ⟨rfl, rfl⟩ := h; rw [if_pos ⟨rfl, rfl⟩, if_pos ⟨rfl, by omega⟩]
  · rw [if_neg h]
    by_cases h2 : i = a ∧ j < c
    · rw [if_pos h2, if_pos (by omega)]
    · rw [if_neg h2, if_neg (by omega)]
theorem t1M_at (A B a b c T) : t1M A B a b c T a c = T a c := by unfold t1M; rw [if_neg (by omega)]
theorem t1M_0 (A B a b T) : t1M A B a b 0 T = T := by funext i j; unfold t1M; rw [if_neg (by omega)]
set_option maxRecDepth 100000 in
set_option maxHeartbeats 4000000 in
theorem sp_mthen (h : F 32 = some A_xref01_R_Then) (h27 : F 27 = some A_xref01_New) {n m : Nat} (hn : n ≤ 40) (hm : m ≤ 40) (A B : Mx) : pureS F 32 [.ptr (matC n A), .ptr (matC m B)] = some (.ptr (matC (max n m) (thM A B (max n m) (max n m)))) := by
  refine pure_of_thaw h (matC_flat _ _) ?_
  have hN : max n m ≤ 40 := by omega
  simp (disch := omega) only [A_xref01_R_Then, wp, Nat.reduceAdd, Nat.reduceMul, Nat.reduceSub, ml, maxI, thaw27 h27]
  generalize max n m = N at hN
  refine W_loop (fun q e g => ∃ a, q = N - a ∧ a ≤ N ∧ e 0 = .ptr (matC n A) ∧ e 1 = .ptr (matC m B) ∧ e 5 = .mp 10 0 ∧ e 6 = .i .i64 a ∧ g.hp 10 = some (.cells (matC N (thM A B N a)) false) ∧ 10 < g.nx) N ?_ ?_
  · refine ⟨0, rfl, Nat.zero_le _, ?_⟩
    simp (disch := omega) only [wp, Nat.reduceAdd, Nat.reduceMul, Nat.reduceSub]
    exact ⟨rfl, rfl, by first | omega | (dsimp only; omega)⟩
  · rintro q e g ⟨a, rfl, ha, h0, h1, h5, h6, hg, hnx⟩
    by_cases ha' : a < N
    · have ha1 : (a : Int) < N := by omega
      have hwa := succ_wrap (k := a) (by omega)
      simp (disch := omega) only [wp, Nat.reduceAdd, Nat.reduceMul, Nat.reduceSub, ml, h0, h1, h5, h6, hg, ha1]
      refine W_loop (fun q e g => ∃ b, q = N - b ∧ b ≤ N ∧ e 0 = .ptr (matC n A) ∧ e 1 = .ptr (matC m B) ∧ e 5 = .mp 10 0 ∧ e 6 = .i .i64 a ∧ e 7 = .i .i64 b ∧ g.hp 10 = some (.cells (matC N (t3M A B N a b (thM A B N a))) false) ∧ 10 < g.nx) N ?_ ?_
      · refine ⟨0, rfl, Nat.zero_le _, ?_⟩
        simp (disch := omega) only [wp, Nat.reduceAdd, Nat.reduceMul, Nat.reduceSub, h0, h1, h5, h6, hg]
        exact ⟨rfl, rfl, by first | omega | (dsimp only; omega)⟩
      · rintro q e g ⟨b, rfl, hb, h0, h1, h5, h6, h7, hg, hnx⟩
        by_cases hb' : b < N
        · have hb1 : (b : Int) < N := by omega
          have hwb := succ_wrap (k := b) (by omega)
          have hs := t3M_succ A B N a b (thM A B N a)
          generalize t3M A B N a b (thM A B N a) = T at hg hs
          cases hA : A a b with
          | true =>
            rw [t2M, if_pos hA] at hs
            simp (disch := omega) only [wp, Nat.reduceAdd, Nat.reduceMul, Nat.reduceSub, ml, h0, h1, h5, h6, h7, hg, hb1]
            refine W_loop (fun q e g => ∃ c, q = N - c ∧ c ≤ N ∧ e 0 = .ptr (matC n A) ∧ e 1 = .ptr (matC m B) ∧ e 5 = .mp 10 0 ∧ e 6 = .i .i64 a ∧ e 7 = .i .i64 b ∧ e 8 = .i .i64 c ∧ g.hp 10 = some (.cells (matC N (t1M A B a b c T)) false) ∧ 10 < g.nx) N ?_ ?_
            · refine ⟨0, rfl, Nat.zero_le _, ?_⟩
              simp (disch := omega) only [wp, Nat.reduceAdd, Nat.reduceMul, Nat.reduceSub, h0, h1, h5, h6, h7, hg, t1M_0]
              exact ⟨rfl, by first | omega | (dsimp only; omega)⟩
            · rintro q e g ⟨c, rfl, hc, h0, h1, h5, h6, h7, h8, hg, hnx⟩
              by_cases hc' : c < N
              · have hc1 : (c : Int) < N := by omega
                have hwc := succ_wrap (k := c) (by omega)
                have hs1 := t1M_succ A B a b c T
                have hat := t1M_at A B a b c T
                cases hT : T a c with
                | true =>
                  rw [hT] at hat hs1
                  simp only [Bool.true_or] at hs1
                  simp (disch := omega) only [wp, Nat.reduceAdd, Nat.reduceMul, Nat.reduceSub, ml, h0, h1, h5, h6, h7, h8, hg, hc1, hA, hat, hwc, hs1]
                  exact ⟨N - (c + 1), by omega, c + 1, rfl, by omega, rfl, rfl, by first | omega | (dsimp only; omega)⟩
                | false =>
                  rw [hT] at hat hs1
                  simp only [Bool.false_or] at hs1
                  simp (disch := omega) only [wp, Nat.reduceAdd, Nat.reduceMul, Nat.reduceSub, ml, h0, h1, h5, h6, h7, h8, hg, hc1, hA, hat, hwc, hs1]
                  exact ⟨N - (c + 1), by omega, c + 1, rfl, by omega, rfl, rfl, by first | omega | (dsimp only; omega)⟩
              · obtain rfl : c = N := by omega
                have hc1 : ¬ ((c : Int) < c) := by omega
                rw [← hs] at hg
                simp (disch := omega) only [wp, Nat.reduceAdd, Nat.reduceMul, Nat.reduceSub, ml, h0, h1, h5, h6, h7, h8, hg, hc1, hwb]
                exact ⟨c - (b + 1), by omega, b + 1, rfl, by omega, rfl, rfl, by first | omega | (dsimp only; omega)⟩
          | false =>
            rw [t2M, if_neg (by rw [hA]; simp)] at hs
            have h0N : (0 : Int) < N := by omega
            have hA0 : part (((matR A).drop (a * 40)).drop (b * 1)) 0 none = some (.b false) := by rw [matR_at (by omega), hA]
            simp (disch := omega) only [wp, Nat.reduceAdd, Nat.reduceMul, Nat.reduceSub, ml, h0, h1, h5, h6, h7, hg, hb1]
            refine W_loop (fun q e g => e 0 = .ptr (matC n A) ∧ e 1 = .ptr (matC m B) ∧ e 5 = .mp 10 0 ∧ e 6 = .i .i64 a ∧ e 7 = .i .i64 b ∧ e 8 = .i .i64 0 ∧ g.hp 10 = some (.cells (matC N T) false) ∧ 10 < g.nx) 0 ?_ ?_
            · simp (disch := omega) only [wp, Nat.reduceAdd, Nat.reduceMul, Nat.reduceSub, h0, h1, h5, h6, h7, hg]
              first | omega | (dsimp only; omega)
            · rintro q e g ⟨h0, h1, h5, h6, h7, h8, hg, hnx⟩
              rw [← hs] at hg
              simp (disch := omega) only [wp, Nat.reduceAdd, Nat.reduceMul, Nat.reduceSub, ml, h0, h1, h5, h6, h7, h8, hg, h0N, hA, hwb]
              exact ⟨N - (b + 1), by omega, b + 1, rfl, by omega, rfl, rfl, by first | omega | (dsimp only; omega)⟩
        · obtain rfl : b = N := by omega
          have hb1 : ¬ ((b : Int) < b) := by omega
          rw [← thM_succ] at hg
          simp (disch := omega) only [wp, Nat.reduceAdd, Nat.reduceMul, Nat.reduceSub, ml, h0, h1, h5, h6, h7, hg, hb1, hwa]
          exact ⟨b - (a + 1), by omega, a + 1, rfl, by omega, rfl, rfl, by first | omega | (dsimp only; omega)⟩
    · obtain rfl : a = N := by omega
      have ha1 : ¬ ((a : Int) < a) := by omega
      simp (disch := omega) only [wp, Nat.reduceAdd, Nat.reduceMul, Nat.reduceSub, ml, h0, h1, h5, h6, hg, ha1]
      exact ⟨10, rfl, hg⟩
def bkM (A : Mx) (N a b : Nat) : Mx := fun i j => if (j < a ∧ i < N) ∨ (j = a ∧ i < b) then A j i else false
theorem bkM_succ (A N a b) : upd2 (bkM A N a b) b a (A a b) = bkM A N a (b + 1) := by
  funext i j
  unfold upd2 bkM
  by_cases h : i = b ∧ j = a
  · obtain ⟨rfl, rfl⟩ := h
    rw [if_pos ⟨rfl, rfl⟩, if_pos (.inr ⟨rfl, by omega⟩)]
  · rw [if_neg h]
    by_cases h2 : (j < a ∧ i < N) ∨ (j = a ∧ i < b)
    · rw [if_pos h2, if_pos (by omega)]
    · rw [if_neg h2, if_neg (by omega)]
theorem bkM_row (A N a) : bkM A N a N = bkM A N (a + 1) 0 := by
  funext i j
  unfold bkM
  by_cases h2 : (j < a ∧ i < N) ∨ (j = a ∧ i < N)
  · rw [if_pos h2, if_pos (by omega)]
  · rw [if_neg h2, if_neg (by omega)]
theorem bkM_0 (A N) : bkM A N 0 0 = fun _ _ => false := by
  funext i j
  unfold bkM
  rw [if_neg (by omega)]
set_option maxRecDepth 100000 in
set_option maxHeartbeats 4000000 in
theorem sp_mback (h : F 33 = some A_xref01_R_Back) (h27 : F 27 = some A_xref01_New) {n : Nat} (hn : n ≤ 40) (A : Mx) : pureS F 33 [.ptr (matC n A)] = some (.ptr (matC n (bkM A n n 0))) := by
  refine pure_of_thaw h (matC_flat _ _) ?_
  simp (disch := omega) only [A_xref01_R_Back, wp, Nat.reduceAdd, Nat.reduceMul, Nat.reduceSub, ml, thaw27 h27]
  refine W_loop (fun q e g => ∃ a, q = n - a ∧ a ≤ n ∧ e 0 = .ptr (matC n A) ∧ e 3 = .mp 5 0 ∧ e 4 = .i .i64 a ∧ g.hp 5 = some (.cells (matC n (bkM A n a 0)) false) ∧ 5 < g.nx) n ?_ ?_
  · refine ⟨0, rfl, Nat.zero_le _, ?_⟩
    simp (disch := omega) only [wp, Nat.reduceAdd, Nat.reduceMul, Nat.reduceSub, bkM_0]
    exact ⟨rfl, by first | omega | (dsimp only; omega)⟩
  · rintro q e g ⟨a, rfl, ha, h0, h3, h4, hg, hnx⟩
    by_cases ha' : a < n
    · have ha1 : (a : Int) < n := by omega
      have hwa := succ_wrap (k := a) (by omega)
      simp (disch := omega) only [wp, Nat.reduceAdd, Nat.reduceMul, Nat.reduceSub, ml, h0, h3, h4, hg, ha1]
      refine W_loop (fun q e g => ∃ b, q = n - b ∧ b ≤ n ∧ e 0 = .ptr (matC n A) ∧ e 3 = .mp 5 0 ∧ e 4 = .i .i64 a ∧ e 5 = .i .i64 b ∧ g.hp 5 = some (.cells (matC n (bkM A n a b)) false) ∧ 5 < g.nx) n ?_ ?_
      · refine ⟨0, rfl, Nat.zero_le _, ?_⟩
        simp (disch := omega) only [wp, Nat.reduceAdd, Nat.reduceMul, Nat.reduceSub, h0, h3, h4, hg]
        exact ⟨rfl, by first | omega | (dsimp only; omega)⟩
      · rintro q e g ⟨b, rfl, hb, h0, h3, h4, h5, hg, hnx⟩
        by_cases hb' : b < n
        · have hb1 : (b : Int) < n := by omega
          have hwb := succ_wrap (k := b) (by omega)
          have hs := bkM_succ A n a b
          simp (disch := omega) only [wp, Nat.reduceAdd, Nat.reduceMul, Nat.reduceSub, ml, h0, h3, h4, h5, hg, hb1, hwb, hs]
          exact ⟨n - (b + 1), by omega, b + 1, rfl, by omega, rfl, rfl, by first | omega | (dsimp only; omega)⟩
        · obtain rfl : b = n := by omega
          have hb1 : ¬ ((b : Int) < b) := by omega
          rw [bkM_row] at hg
          simp (disch := omega) only [wp, Nat.reduceAdd, Nat.reduceMul, Nat.reduceSub, ml, h0, h3, h4, h5, hg, hb1, hwa]
          exact ⟨b - (a + 1), by omega, a + 1, rfl, by omega, rfl, rfl, by first | omega | (dsimp only; omega)⟩
    · obtain rfl : a = n := by omega
      have ha1 : ¬ ((a : Int) < a) := by omega
      simp (disch := omega) only [wp, Nat.reduceAdd, Nat.reduceMul, Nat.reduceSub, ml, h0, h3, h4, hg, ha1]
      exact ⟨5, rfl, hg⟩
def mbM (A : Mx) (k : Nat) : Mx := fun i j => A i j || decide (i < k ∧ i = j)
theorem mbM_succ (A k) : upd2 (mbM A k) k k true = mbM A (k + 1) := by
  funext i j
  unfold upd2 mbM
  by_cases h : i = k ∧ j = k
  · obtain ⟨rfl, rfl⟩ := h; rw [if_pos ⟨rfl, rfl⟩]; simp
  · rw [if_neg h]
    congr 1
    rw [decide_eq_decide]; omega
theorem mbM_0 (A) : mbM A 0 = A := by funext i j; simp [mbM]
set_option maxRecDepth 100000 in
set_option maxHeartbeats 4000000 in
theorem sp_mmaybe (h : F 35 = some A_xref01_R_Maybe) (h27 : F 27 = some A_xref01_New) {n : Nat} (hn : n ≤ 40) (A : Mx) : pureS F 35 [.ptr (matC n A)] = some (.ptr (matC n (mbM A n))) := by
  refine pure_of_thaw h (matC_flat _ _) ?_
  simp (disch := omega) only [A_xref01_R_Maybe, wp, Nat.reduceAdd, Nat.reduceMul, Nat.reduceSub, ml, thaw27 h27]
  refine W_loop (fun q e g => ∃ a, q = n - a ∧ a ≤ n ∧ e 3 = .mp 5 0 ∧ e 4 = .i .i64 a ∧ g.hp 5 = some (.cells (matC n (mbM A a)) false) ∧ 5 < g.nx) n ?_ ?_
  · refine ⟨0, rfl, Nat.zero_le _, ?_⟩
    simp (disch := omega) only [wp, Nat.reduceAdd, Nat.reduceMul, Nat.reduceSub, mbM_0]
    exact ⟨rfl, by first | omega | (dsimp only; omega)⟩
  · rintro q e g ⟨a, rfl, ha, h3, h4, hg, hnx⟩
    by_cases ha' : a < n
    · have ha1 : (a : Int) < n := by omega
      have hwa := succ_wrap (k := a) (by omega)
      have hs := mbM_succ A a
      simp (disch := omega) only [wp, Nat.reduceAdd, Nat.reduceMul, Nat.reduceSub, ml, h3, h4, hg, ha1, hwa, hs]
      exact ⟨n - (a + 1), by omega, a + 1, rfl, by omega, rfl, rfl, by first | omega | (dsimp only; omega)⟩
    · obtain rfl : a = n := by omega
      have ha1 : ¬ ((a : Int) < a) := by omega
      simp (disch := omega) only [wp, Nat.reduceAdd, Nat.reduceMul, Nat.reduceSub, ml, h3, h4, hg, ha1]
      exact ⟨5, rfl, hg⟩
end Go.Ab
end
section
set_option linter.unusedVariables false
set_option linter.unusedSimpArgs false
namespace Go.Ab
variable {F : Funs}
def p1M (k a c : Nat) (T : Mx) : Mx := fun i j => if i = a ∧ j < c then T i j || T k j else T i j
def p2M (N k : Nat) (T : Mx) (a : Nat) : Mx := if T a k then p1M k a N T else T
def p3M (N k m : Nat) (T : Mx) : Mx := (List.range m).foldl (p2M N k) T
def plM (N : Nat) (A : Mx) (m : Nat) : Mx := (List.range m).foldl (fun T k => p3M N k N T) A
theorem p3M_succ (N k m T) : p3M N k (m + 1) T = p2M N k (p3M N k m T) m := by simp [p3M, List.range_succ]
theorem plM_succ (N A m) : plM N A (m + 1) = p3M N m N (plM N A m) := by simp [plM, List.range_succ]
theorem p1M_succ (k a c T) : upd2 (p1M k a c T) a c (T a c || T k c) = p1M k a (c + 1) T := by
  funext i j
  unfold upd2 p1M
  by_cases h : i = a ∧ j = c
  · obtain ⟨rfl, rfl⟩ := h; rw [if_pos ⟨rfl, rfl⟩, if_pos ⟨rfl, by omega⟩]
  · rw [if_neg h]
    by_cases h2 : i = a ∧ j < c
    · rw [if_pos h2, if_pos (by omega)]
    · rw [if_neg h2, if_neg (by omega)]
theorem p1M_at (k a c T) : p1M k a c T a c = T a c := by unfold p1M; rw [if_neg (by omega)]
theorem p1M_k (k a c T) : p1M k a c T k c = T k c := by unfold p1M; rw [if_neg (by omega)]
theorem p1M_cond {k a c T} (h : T a k = true) : p1M k a c T a k = true := by unfold p1M; split <;> simp [h]
theorem p1M_0 (k a T) : p1M k a 0 T = T := by funext i j; unfold p1M; rw [if_neg (by omega)]
set_option maxRecDepth 100000 in
set_option maxHeartbeats 4000000 in
theorem sp_mplus (h : F 34 = some A_xref01_R_Plus) (h27 : F 27 = some A_xref01_New) {N : Nat} (hN : N ≤ 40) (A : Mx) : pureS F 34 [.ptr (matC N A)] = some (.ptr (matC N (plM N A N))) := by
  refine pure_of_thaw h (matC_flat _ _) ?_
  simp (disch := omega) only [A_xref01_R_Plus, wp, Nat.reduceAdd, Nat.reduceMul, Nat.reduceSub, ml, thaw27 h27]
  refine W_loop (fun q e g => ∃ k, q = N - k ∧ k ≤ N ∧ e 3 = .mp 5 0 ∧ e 4 = .i .i64 k ∧ g.hp 5 = some (.cells (matC N (plM N A k)) false) ∧ 5 < g.nx) N ?_ ?_
  · refine ⟨0, rfl, Nat.zero_le _, ?_⟩
    simp (disch := omega) only [wp, Nat.reduceAdd, Nat.reduceMul, Nat.reduceSub]
    exact ⟨rfl, rfl, by first | omega | (dsimp only; omega)⟩
  · rintro q e g ⟨k, rfl, hk, h3, h4, hg, hnx⟩
    by_cases hk' : k < N
    · have hk1 : (k : Int) < N := by omega
      have hwk := succ_wrap (k := k) (by omega)
      simp (disch := omega) only [wp, Nat.reduceAdd, Nat.reduceMul, Nat.reduceSub, ml, h3, h4, hg, hk1]
      refine W_loop (fun q e g => ∃ a, q = N - a ∧ a ≤ N ∧ e 3 = .mp 5 0 ∧ e 4 = .i .i64 k ∧ e 5 = .i .i64 a ∧ g.hp 5 = some (.cells (matC N (p3M N k a (plM N A k))) false) ∧ 5 < g.nx) N ?_ ?_
      · refine ⟨0, rfl, Nat.zero_le _, ?_⟩
        simp (disch := omega) only [wp, Nat.reduceAdd, Nat.reduceMul, Nat.reduceSub, h3, h4, hg]
        exact ⟨rfl, rfl, by first | omega | (dsimp only; omega)⟩
      · rintro q e g ⟨a, rfl, ha, h3, h4, h5, hg, hnx⟩
        by_cases ha' : a < N
        · have ha1 : (a : Int) < N := by omega
          have hwa := succ_wrap (k := a) (by omega)
          have hs := p3M_succ N k a (plM N A k)
          generalize p3M N k a (plM N A k) = T at hg hs
          cases hA : T a k with
          | true =>
            rw [p2M, if_pos hA] at hs
            simp (disch := omega) only [wp, Nat.reduceAdd, Nat.reduceMul, Nat.reduceSub, ml, h3, h4, h5, hg, ha1]
            refine W_loop (fun q e g => ∃ c, q = N - c ∧ c ≤ N ∧ e 3 = .mp 5 0 ∧ e 4 = .i .i64 k ∧ e 5 = .i .i64 a ∧ e 6 = .i .i64 c ∧ g.hp 5 = some (.cells (matC N (p1M k a c T)) false) ∧ 5 < g.nx) N ?_ ?_
            · refine ⟨0, rfl, Nat.zero_le _, ?_⟩
              simp (disch := omega) only [wp, Nat.reduceAdd, Nat.reduceMul, Nat.reduceSub, h3, h4, h5, hg, p1M_0]
              exact ⟨rfl, by first | omega | (dsimp only; omega)⟩
            · rintro q e g ⟨c, rfl, hc, h3, h4, h5, h6, hg, hnx⟩
              by_cases hc' : c < N
              · have hc1 : (c : Int) < N := by omega
                have hwc := succ_wrap (k := c) (by omega)
                have hs1 := p1M_succ k a c T
                have hat := p1M_at k a c T
                have hkc := p1M_k k a c T
                have hco := p1M_cond (c := c) hA
                generalize p1M k a c T = M at hg hs1 hat hkc hco
                cases hT : T a c with
                | true =>
                  rw [hT] at hat hs1
                  simp only [Bool.true_or] at hs1
                  simp (disch := omega) only [wp, Nat.reduceAdd, Nat.reduceMul, Nat.reduceSub, ml, h3, h4, h5, h6, hg, hc1, hco, hat, hwc, hs1]
                  exact ⟨N - (c + 1), by omega, c + 1, rfl, by omega, rfl, rfl, by first | omega | (dsimp only; omega)⟩
                | false =>
                  rw [hT] at hat hs1
                  simp only [Bool.false_or] at hs1
                  simp (disch := omega) only [wp, Nat.reduceAdd, Nat.reduceMul, Nat.reduceSub, ml, h3, h4, h5, h6, hg, hc1, hco, hat, hkc, hwc, hs1]
                  exact ⟨N - (c + 1), by omega, c + 1, rfl, by omega, rfl, rfl, by first | omega | (dsimp only; omega)⟩
              · obtain rfl : c = N := by omega
                have hc1 : ¬ ((c : Int) < c) := by omega
                rw [← hs] at hg
                simp (disch := omega) only [wp, Nat.reduceAdd, Nat.reduceMul, Nat.reduceSub, ml, h3, h4, h5, h6, hg, hc1, hwa]
                exact ⟨c - (a + 1), by omega, a + 1, rfl, by omega, rfl, rfl, by first | omega | (dsimp only; omega)⟩
          | false =>
            rw [p2M, if_neg (by rw [hA]; simp)] at hs
            have h0N : (0 : Int) < N := by omega
            simp (disch := omega) only [wp, Nat.reduceAdd, Nat.reduceMul, Nat.reduceSub, ml, h3, h4, h5, hg, ha1]
            refine W_loop (fun q e g => e 3 = .mp 5 0 ∧ e 4 = .i .i64 k ∧ e 5 = .i .i64 a ∧ e 6 = .i .i64 0 ∧ g.hp 5 = some (.cells (matC N T) false) ∧ 5 < g.nx) 0 ?_ ?_
            · simp (disch := omega) only [wp, Nat.reduceAdd, Nat.reduceMul, Nat.reduceSub, h3, h4, h5, hg]
              first | omega | (dsimp only; omega)
            · rintro q e g ⟨h3, h4, h5, h6, hg, hnx⟩
              simp (disch := omega) only [wp, Nat.reduceAdd, Nat.reduceMul, Nat.reduceSub, ml, h3, h4, h5, h6, hg, h0N, hA, hwa]
              exact ⟨N - (a + 1), by omega, a + 1, rfl, by omega, rfl, by rw [hs], by first | omega | (dsimp only; omega)⟩
        · obtain rfl : a = N := by omega
          have ha1 : ¬ ((a : Int) < a) := by omega
          rw [← plM_succ] at hg
          simp (disch := omega) only [wp, Nat.reduceAdd, Nat.reduceMul, Nat.reduceSub, ml, h3, h4, h5, hg, ha1, hwk]
          exact ⟨a - (k + 1), by omega, k + 1, rfl, by omega, rfl, rfl, by first | omega | (dsimp only; omega)⟩
    · obtain rfl : k = N := by omega
      have hk1 : ¬ ((k : Int) < k) := by omega
      simp (disch := omega) only [wp, Nat.reduceAdd, Nat.reduceMul, Nat.reduceSub, ml, h3, h4, hg, hk1]
      exact ⟨5, rfl, hg⟩
set_option maxRecDepth 100000 in
set_option maxHeartbeats 4000000 in
theorem sp_mpairs (h : F 56 = some A_xref01_R_Pairs) {n : Nat} (hn : n ≤ 40) (M : Mx) (R : Rw) (hM : ∀ a b : Nat, a < n → b < n → M a b = has n R a b) : pureS F 56 [.ptr (matC n M)] = some (.sl (pairsC (pairsR n R)) (pairsR n R).length .non) := by
  refine pure_of h ?_
  simp (disch := omega) only [A_xref01_R_Pairs, wp, Nat.reduceAdd, Nat.reduceMul, Nat.reduceSub, ml]
  refine W_loop (fun m e g => ∃ k t, m = n - k ∧ k ≤ n ∧ e 0 = .ptr (matC n M) ∧ e 4 = .i .i64 k ∧ e 3 = .sl (pairsC (pairsK n k R)) (pairsK n k R).length t ∧ Live g 2 t ∧ (pairsK n k R).length ≤ 40 * k) n ?_ ?_
  · refine ⟨0, .rig, rfl, Nat.zero_le _, ?_⟩
    simp (disch := omega) only [wp, Nat.reduceAdd, Nat.reduceMul, Nat.reduceSub]
    exact ⟨rfl, rfl, .inl rfl, Nat.zero_le _⟩
  · rintro m e g ⟨k, t, rfl, hk, h0, h4, h3, ht, hl⟩
    by_cases hk' : k < n
    · have hk1 : (k : Int) < n := by omega
      have hw := succ_wrap (k := k) (by omega)
      simp (disch := omega) only [wp, Nat.reduceAdd, Nat.reduceMul, Nat.reduceSub, ml, h0, h4, h3, hk1]
      refine W_loop (fun m e g => ∃ j t, m = n - j ∧ j ≤ n ∧ e 0 = .ptr (matC n M) ∧ e 4 = .i .i64 k ∧ e 5 = .i .i64 j ∧ e 3 = .sl (pairsC (partL n k j R)) (partL n k j R).length t ∧ Live g 2 t ∧ (partL n k j R).length ≤ 40 * k + j) n ?_ ?_
      · refine ⟨0, t, rfl, Nat.zero_le _, ?_⟩
        simp (disch := omega) only [wp, Nat.reduceAdd, Nat.reduceMul, Nat.reduceSub, h0, h4, h3]
        rw [partL_0]
        refine ⟨rfl, rfl, ?_, by omega⟩
        rcases ht with rfl | ⟨τ, rfl, hτ, hlt⟩
        · exact .inl rfl
        · exact .inr ⟨τ, rfl, hτ, Nat.lt_of_lt_of_le hlt (by dsimp only; omega)⟩
      · rintro m e g ⟨j, t, rfl, hj, h0, h4, h5, h3, ht, hl⟩
        have hLn := partL_succ n k j R
        by_cases hj' : j < n
        · have hj1 : (j : Int) < n := by omega
          have hwj := succ_wrap (k := j) (by omega)
          have hMh := hM k j hk' hj'
          by_cases hh : has n R k j = true
          · rw [if_pos hh] at hLn
            rw [hh] at hMh
            rcases ht with rfl | ⟨τ, rfl, hτ, hlt⟩
            · simp (disch := omega) only [wp, Nat.reduceAdd, Nat.reduceMul, Nat.reduceSub, ml, h0, h4, h5, h3, hj1, hMh, hwj, pairsC_len]
              refine ⟨n - (j + 1), ?_, j + 1, ?_⟩
              · omega
              · rw [hLn, pairsC_app, pairsC_one, List.length_append]
                exact ⟨_, rfl, by omega, rfl, rfl, .inr ⟨_, rfl, upd_same _ _ _, by dsimp only; omega⟩, by simp; omega⟩
            · simp (disch := omega) only [wp, Nat.reduceAdd, Nat.reduceMul, Nat.reduceSub, ml, h0, h4, h5, h3, hj1, hMh, hwj, pairsC_len, hτ]
              refine ⟨n - (j + 1), ?_, j + 1, ?_⟩
              · omega
              · rw [hLn, pairsC_app, pairsC_one, List.length_append]
                exact ⟨_, rfl, by omega, rfl, rfl, .inr ⟨_, rfl, upd_same _ _ _, by dsimp only; omega⟩, by simp; omega⟩
          · rw [if_neg hh] at hLn
            rw [Bool.not_eq_true] at hh
            rw [hh] at hMh
            simp (disch := omega) only [wp, Nat.reduceAdd, Nat.reduceMul, Nat.reduceSub, ml, h0, h4, h5, h3, hj1, hMh, hwj]
            refine ⟨_, ?_, j + 1, t, rfl, by omega, rfl, ?_⟩
            · omega
            · rw [hLn]
              refine ⟨rfl, ?_, by omega⟩
              rcases ht with rfl | ⟨τ, rfl, hτ, hlt⟩
              · exact .inl rfl
              · exact .inr ⟨τ, rfl, hτ, Nat.lt_of_lt_of_le hlt (by dsimp only; omega)⟩
        · obtain rfl : j = n := by omega
          have hj1 : ¬ ((j : Int) < j) := by omega
          simp (disch := omega) only [wp, Nat.reduceAdd, Nat.reduceMul, Nat.reduceSub, ml, h0, h4, h5, h3, hj1, hw]
          refine ⟨_, ?_, k + 1, t, rfl, by omega, rfl, ?_⟩
          · omega
          · rw [← partL_n]
            refine ⟨rfl, ?_, by omega⟩
            rcases ht with rfl | ⟨τ, rfl, hτ, hlt⟩
            · exact .inl rfl
            · exact .inr ⟨τ, rfl, hτ, Nat.lt_of_lt_of_le hlt (by dsimp only; omega)⟩
    · obtain rfl : k = n := by omega
      have hk1 : ¬ ((k : Int) < k) := by omega
      simp (disch := omega) only [wp, Nat.reduceAdd, Nat.reduceMul, Nat.reduceSub, ml, h0, h4, h3, hk1]
      rfl
set_option maxRecDepth 100000 in
set_option maxHeartbeats 1000000 in
theorem sp_mloops (h : F 37 = some A_xref01_R_Loops) (h34 : F 34 = some A_xref01_R_Plus) (h27 : F 27 = some A_xref01_New) {n : Nat} (hn : n ≤ 40) (M : Mx) : pureS F 37 [.ptr (matC n M)] = some (.b ((List.range n).any fun a => plM n M n a a)) := by
  refine pure_of h ?_
  simp (disch := omega) only [A_xref01_R_Loops, wp, Nat.reduceAdd, Nat.reduceMul, Nat.reduceSub, ml, sp_mplus h34 h27 hn]
  generalize plM n M n = T
  refine W_loop (fun m e g => ∃ k, m = n - k ∧ k ≤ n ∧ e 3 = .ptr (matC n T) ∧ e 4 = .i .i64 k ∧ ∀ a, a < k → T a a = false) n ?_ ?_
  · refine ⟨0, rfl, Nat.zero_le _, ?_⟩
    simp (disch := omega) only [wp, Nat.reduceAdd, Nat.reduceMul, Nat.reduceSub]
    exact ⟨rfl, fun a ha => absurd ha (Nat.not_lt_zero _)⟩
  · rintro m e g ⟨k, rfl, hk, h3, h4, hall⟩
    by_cases hk' : k < n
    · have hk1 : (k : Int) < n := by omega
      have hw := succ_wrap (k := k) (by omega)
      cases hh : T k k with
      | true =>
        simp (disch := omega) only [wp, Nat.reduceAdd, Nat.reduceMul, Nat.reduceSub, ml, h3, h4, hk1, hw, hh]
        have : (List.range n).any (fun a => T a a) = true := List.any_eq_true.2 ⟨k, List.mem_range.2 hk', hh⟩
        rw [this]
      | false =>
        simp (disch := omega) only [wp, Nat.reduceAdd, Nat.reduceMul, Nat.reduceSub, ml, h3, h4, hk1, hw, hh]
        refine ⟨n - (k + 1), by omega, k + 1, rfl, by omega, rfl, fun a ha => ?_⟩
        by_cases hak : a = k
        · subst hak; exact hh
        · exact hall a (by omega)
    · obtain rfl : k = n := by omega
      have hk1 : ¬ ((k : Int) < k) := by omega
      simp (disch := omega) only [wp, Nat.reduceAdd, Nat.reduceMul, Nat.reduceSub, ml, h3, h4, hk1]
      have : (List.range k).any (fun a => T a a) = false := List.any_eq_false.2 fun a ha => by rw [hall a (List.mem_range.1 ha)]; simp
      rw [this]
end Go.Ab
end
section
set_option linter.unusedVariables false
set_option linter.unusedSimpArgs false
namespace Go.Ab
variable {F : Funs}
def Eqv (A : Mx) (R : Rw) : Prop := ∀ a b, A a b = hb R a b
theorem upd2_get (M : Mx) (a b : Nat) (x : Bool) (i j : Nat) : upd2 M a b x i j = if i = a ∧ j = b then x else M i j := rfl
theorem eqv_new {n : Nat} (hn : n ≤ 40) (l : List (Int × Int)) : Eqv (newM n l) (newR n l) := by
  have key : ∀ (l : List (Int × Int)) (M : Mx) (R : Rw), Eqv M R → Eqv (l.foldl (addM n) M) (l.foldl (addR n) R) := by
    intro l
    induction l with
    | nil => intro M R h; exact h
    | cons p l ih =>
      intro M R h
      refine ih _ _ fun a b => ?_
      rw [hb_add hn]
      unfold addM
      by_cases hi : inR n p = true
      · rw [if_pos hi, upd2_get, hi]
        have hi' := hi
        simp only [inR, decide_eq_true_eq] at hi'
        by_cases h2 : a = p.1.toNat ∧ b = p.2.toNat
        · rw [if_pos h2]
          have : p = ((a : Int), (b : Int)) := by
            obtain ⟨x, y⟩ := p
            simp only at h2 hi'
            simp only [Prod.mk.injEq]; omega
          simp [this]
        · rw [if_neg h2, h a b]
          have : ¬ p = ((a : Int), (b : Int)) := by
            rintro rfl
            exact h2 ⟨by simp, by simp⟩
          simp [this]
      · rw [if_neg hi, h a b]
        simp only [Bool.not_eq_true] at hi
        simp [hi]
  exact key l _ _ fun a b => by rw [hb_zero]
def Same (n : Nat) (M : Mx) (R : Rw) : Prop := ∀ a b : Nat, a < n → b < n → M a b = has n R a b
theorem same_of {n : Nat} {M : Mx} {R : Rw} (h : ∀ a b, a < n → b < n → M a b = hb R a b) : Same n M R := fun a b ha hb' => by
  rw [h a b ha hb', has_N]
  simp [hN, ha, hb']
theorem opM_get (φ : Bool → Bool → Bool) (A B : Mx) (N a b : Nat) (ha : a < N) (hb' : b < N) : opM φ A B N a b = φ (A a b) (B a b) := by
  unfold opM stM; rw [if_pos (.inl ⟨ha, hb'⟩)]
theorem mback_get (A : Mx) (N a b : Nat) (ha : a < N) (hb' : b < N) : bkM A N N 0 a b = A b a := by
  unfold bkM; rw [if_pos (.inl ⟨hb', ha⟩)]
theorem t3M_get (A B : Mx) (N a k : Nat) (T : Mx) (i j : Nat) (hj : j < N) : t3M A B N a k T i j = (T i j || (decide (i = a) && (List.range k).any fun c => A a c && B c j)) := by
  induction k with
  | zero => simp [t3M]
  | succ k ih =>
    rw [t3M_succ, t2M, List.range_succ, List.any_append]
    cases hA : A a k with
    | true =>
      rw [if_pos rfl]
      unfold t1M
      by_cases hi : i = a
      · subst hi
        rw [if_pos ⟨rfl, hj⟩, ih]
        simp [hA, Bool.or_assoc]
      · rw [if_neg (fun h => hi h.1), ih]
        simp [hi]
    | false =>
      rw [if_neg (by simp), ih]
      simp [hA]
theorem thM_get (A B : Mx) (N k : Nat) (i j : Nat) (hj : j < N) : thM A B N k i j = (decide (i < k) && (List.range N).any fun c => A i c && B c j) := by
  induction k with
  | zero => simp [thM]
  | succ k ih =>
    rw [thM_succ, t3M_get _ _ _ _ _ _ _ _ hj, ih]
    by_cases hi : i = k
    · subst hi; simp
    · have : decide (i < k) = decide (i < k + 1) := by rw [decide_eq_decide]; omega
      rw [this]; simp [hi]
theorem p3M_get (N k m : Nat) (T : Mx) (i j : Nat) (hj : j < N) (hk : k < N) : p3M N k m T i j = (T i j || (decide (i < m) && T i k && T k j)) := by
  have key : ∀ m i j, p3M N k m T i j = (T i j || (decide (i < m) && decide (j < N) && T i k && T k j)) := by
    intro m
    induction m with
    | zero => intro i j; simp [p3M]
    | succ m ih =>
      intro i j
      rw [p3M_succ, p2M]
      have hmk : p3M N k m T m k = T m k := by rw [ih]; simp
      have hkj : ∀ j, p3M N k m T k j = T k j := fun j => by
        rw [ih]
        cases T k j <;> simp
      rw [hmk]
      cases hc : T m k with
      | true =>
        rw [if_pos rfl]
        unfold p1M
        by_cases hi : i = m
        · subst hi
          by_cases hjN : j < N
          · rw [if_pos ⟨rfl, hjN⟩, ih, hkj]
            simp [hjN, hc]
          · rw [if_neg (by omega), ih]
            simp [hjN]
        · rw [if_neg (fun h => hi h.1), ih]
          have : decide (i < m) = decide (i < m + 1) := by rw [decide_eq_decide]; omega
          rw [this]
      | false =>
        rw [if_neg (by simp), ih]
        by_cases hi : i = m
        · subst hi; simp [hc]
        · have : decide (i < m) = decide (i < m + 1) := by rw [decide_eq_decide]; omega
          rw [this]
  rw [key]; simp [hj]
theorem plM_get {N : Nat} {A : Mx} {R : Rw} (h : Eqv A R) (hR : Wf N R) : ∀ k, k ≤ N → ∀ i j, i < N → j < N → plM N A k i j = hb (plusK N k R) i j
  | 0, _, i, j, _, _ => h i j
  | k + 1, hk, i, j, hi, hj => by
    have ih := plM_get h hR k (by omega)
    rw [plM_succ, p3M_get _ _ _ _ _ _ hj (by omega), plusK_succ, hb_rowP (by omega) _ (wf_plusK hR k (by omega)) N (Nat.le_refl _), ih i j hi hj, ih i k hi (by omega), ih k j (by omega) hj]
theorem Wf.mono {n m : Nat} (h : n ≤ m) {R : Rw} (hR : Wf n R) : Wf m R := fun a b hh => by obtain ⟨h1, h2⟩ := hR a b hh; omega
end Go.Ab
end
section
set_option linter.unusedVariables false
set_option linter.unusedSimpArgs false
namespace Go.Ab
variable {F : Funs}
def EqN (n : Nat) (A : Mx) (R : Rw) : Prop := Wf n R ∧ ∀ a b, a < n → b < n → A a b = hb R a b
theorem EqN.same {n A R} (h : EqN n A R) : Same n A R := same_of h.2
theorem EqN.new {n : Nat} (hn : n ≤ 40) (l : List (Int × Int)) : EqN n (newM n l) (newR n l) := ⟨wf_new hn _, fun a b _ _ => eqv_new hn l a b⟩
section
variable {n : Nat} {A B : Mx} {R S : Rw}
theorem EqN.or (h : EqN n A R) (k : EqN n B S) : EqN n (opM (fun x y => x || y) A B n) (orR R S) :=
  ⟨wf_or h.1 k.1, fun a b ha hb' => by rw [opM_get _ _ _ _ _ _ ha hb', h.2 a b ha hb', k.2 a b ha hb', hb_or]⟩
theorem EqN.and (h : EqN n A R) (k : EqN n B S) : EqN n (opM (fun x y => x && y) A B n) (andR R S) :=
  ⟨wf_and h.1, fun a b ha hb' => by rw [opM_get _ _ _ _ _ _ ha hb', h.2 a b ha hb', k.2 a b ha hb', hb_and]⟩
theorem EqN.then (h : EqN n A R) (k : EqN n B S) : EqN n (thM A B n n) (thenR n R S) :=
  ⟨wf_then h.1 k.1, fun a b ha hb' => by
    rw [thM_get _ _ _ _ _ _ hb', Bool.eq_iff_iff, hb_then h.1, decide_eq_true ha, Bool.true_and, List.any_eq_true]
    constructor
    · rintro ⟨c, hc, hh⟩
      rw [h.2 a c ha (List.mem_range.1 hc), k.2 c b (List.mem_range.1 hc) hb', Bool.and_eq_true] at hh
      exact ⟨c, hh.1, hh.2⟩
    · rintro ⟨c, h1, h2⟩
      have hc := (h.1 a c h1).2
      exact ⟨c, List.mem_range.2 hc, by rw [h.2 a c ha hc, k.2 c b hc hb', h1, h2]; rfl⟩⟩
theorem plM_getN {N : Nat} {A : Mx} {R : Rw} (h : EqN N A R) : ∀ k, k ≤ N → ∀ i j, i < N → j < N → plM N A k i j = hb (plusK N k R) i j
  | 0, _, i, j, hi, hj => h.2 i j hi hj
  | k + 1, hk, i, j, hi, hj => by
    have ih := plM_getN h k (by omega)
    rw [plM_succ, p3M_get _ _ _ _ _ _ hj (by omega), plusK_succ, hb_rowP (by omega) _ (wf_plusK h.1 k (by omega)) N (Nat.le_refl _), ih i j hi hj, ih i k hi (by omega), ih k j (by omega) hj]
theorem EqN.plus (h : EqN n A R) : EqN n (plM n A n) (plusR n R) := ⟨wf_plus h.1, fun a b ha hb' => plM_getN h n (Nat.le_refl _) a b ha hb'⟩
theorem EqN.maybe (hn : n ≤ 40) (h : EqN n A R) : EqN n (mbM A n) (maybeK n R) :=
  ⟨wf_maybe hn h.1, fun a b ha hb' => by
    rw [hb_maybeK _ _ _ _ (by omega), ← h.2 a b ha hb']
    unfold mbM
    congr 1
    rw [Bool.eq_iff_iff]
    simp only [Bool.and_eq_true, decide_eq_true_eq]
    omega⟩
end
end Go.Ab
end
section
set_option linter.unusedVariables false
set_option linter.unusedSimpArgs false
namespace Go.Ab
variable {F : Funs}
def anyM (L : List (Int × Int)) : Mx := fun a b => L.any fun q => decide (q = ((a : Int), (b : Int)))
theorem anyM_add (L : List (Int × Int)) {a b : Int} (h0 : 0 ≤ a) (h1 : 0 ≤ b) : upd2 (anyM L) a.toNat b.toNat true = anyM (L ++ [(a, b)]) := by
  funext i j
  unfold upd2 anyM
  rw [List.any_append]
  by_cases h : i = a.toNat ∧ j = b.toNat
  · rw [if_pos h]
    have : decide ((a, b) = ((i : Int), (j : Int))) = true := by rw [decide_eq_true_eq, Prod.mk.injEq]; omega
    simp only [List.any_cons, List.any_nil, this, Bool.true_or, Bool.or_true]
  · rw [if_neg h]
    have : decide ((a, b) = ((i : Int), (j : Int))) = false := by rw [decide_eq_false_iff_not, Prod.mk.injEq]; omega
    simp only [List.any_cons, List.any_nil, this, Bool.or_false]
theorem anyM_mem {L : List (Int × Int)} {a b : Nat} : anyM L a b = true ↔ ((a : Int), (b : Int)) ∈ L := by
  unfold anyM
  rw [List.any_eq_true]
  constructor
  · rintro ⟨q, hq, h⟩; rw [decide_eq_true_eq] at h; rw [← h]; exact hq
  · intro h; exact ⟨_, h, by simp⟩
def rfL (X : Gr) (k : Nat) : List (Int × Int) := (List.range k).flatMap fun (i : Nat) => if 0 ≤ X.rf.getD i 0 then [(X.rf.getD i 0, (i : Int))] else []
theorem rfL_succ (X k) : rfL X (k + 1) = rfL X k ++ (if 0 ≤ X.rf.getD k 0 then [(X.rf.getD k 0, (k : Int))] else []) := by simp [rfL, List.range_succ]
set_option maxRecDepth 100000 in
set_option maxHeartbeats 4000000 in
theorem sp_mRf (h69 : F 69 = some A_xref09_Rf) (h27 : F 27 = some A_xref01_New) {X : Gr} (hn : X.evs.length ≤ 40) (hr : X.rf.length ≤ 40) (hw : ∀ i, i < X.rf.length → X.rf.getD i 0 < 40) : pureS F 69 [.agg (grC X)] = some (.ptr (matC X.evs.length (anyM (rfL X X.rf.length)))) := by
  refine pure_of_thaw h69 (matC_flat _ _) ?_
  simp (disch := omega) only [A_xref09_Rf, wp, Nat.reduceAdd, Nat.reduceMul, Nat.reduceSub, gl, ml, thaw27 h27]
  refine W_loop (fun q e g => ∃ k : Nat, q = X.rf.length - k ∧ k ≤ X.rf.length ∧ e 1 = .mp 0 0 ∧ e 3 = .mp 5 0 ∧ e 4 = .i .i64 k ∧ g.hp 0 = some (.cells (grC X) false) ∧ g.hp 5 = some (.cells (matC X.evs.length (anyM (rfL X k))) false) ∧ 5 < g.nx) X.rf.length ?_ ?_
  · refine ⟨0, rfl, Nat.zero_le _, ?_⟩
    simp (disch := omega) only [wp, Nat.reduceAdd, Nat.reduceMul, Nat.reduceSub]
    exact ⟨rfl, rfl, by first | omega | (dsimp only; omega)⟩
  · rintro q e g ⟨k, rfl, hk, e1, e3, e4, hg, hm, hnx⟩
    by_cases hk' : k < X.rf.length
    · have hk1 : (k : Int) < X.rf.length := by omega
      have hk40 : (k : Int) < 40 := by omega
      have hwk := succ_wrap (k := k) (by omega)
      have hp := ints_part hk'
      have hs := rfL_succ X k
      have hwb := hw k hk'
      generalize X.rf.getD k 0 = w at hp hs hwb
      generalize rfL X k = L at hm hs
      by_cases c1 : 0 ≤ w
      case neg =>
        rw [if_neg c1, List.append_nil] at hs
        simp (disch := omega) only [wp, Nat.reduceAdd, Nat.reduceMul, Nat.reduceSub, gl, ml, e1, e3, e4, hg, hm, hk1, hp, c1, hwk]
        exact ⟨X.rf.length - (k + 1), by omega, k + 1, rfl, by omega, rfl, by rw [hs], by first | omega | (dsimp only; omega)⟩
      rw [if_pos c1] at hs
      have hadd := anyM_add L c1 (b := (k : Int)) (by omega)
      rw [Int.toNat_natCast] at hadd
      have hset := matC_set (n := X.evs.length) (M := anyM L) (a := w.toNat) (b := k) (x := true) (by omega)
      rw [hadd, ← hs] at hset
      simp (disch := omega) only [wp, Nat.reduceAdd, Nat.reduceMul, Nat.reduceSub, gl, ml, e1, e3, e4, hg, hm, hk1, hp, c1, hwk, hset]
      exact ⟨X.rf.length - (k + 1), by omega, k + 1, rfl, by omega, rfl, rfl, by first | omega | (dsimp only; omega)⟩
    · obtain rfl : k = X.rf.length := by omega
      have hk1 : ¬ ((X.rf.length : Int) < X.rf.length) := by omega
      simp (disch := omega) only [wp, Nat.reduceAdd, Nat.reduceMul, Nat.reduceSub, gl, ml, e1, e3, e4, hg, hm, hk1]
      exact ⟨_, rfl, hm⟩
def coI (c : List Int) (i k : Nat) : List (Int × Int) := (List.range k).flatMap fun m => if i < m then [(c.getD i 0, c.getD m 0)] else []
theorem coI_succ {c : List Int} {i k : Nat} (h : i < k) : coI c i (k + 1) = coI c i k ++ [(c.getD i 0, c.getD k 0)] := by simp [coI, List.range_succ, h]
theorem coI_0 (c : List Int) (i : Nat) : coI c i (i + 1) = [] := by
  unfold coI
  rw [List.flatMap_eq_nil_iff]
  intro m hm
  rw [if_neg (by have := List.mem_range.1 hm; omega)]
def coJ (c : List Int) (i : Nat) : List (Int × Int) := (List.range i).flatMap fun j => coI c j c.length
theorem coJ_succ (c i) : coJ c (i + 1) = coJ c i ++ coI c i c.length := by simp [coJ, List.range_succ]
def coX (X : Gr) (l : Nat) : List (Int × Int) := (List.range l).flatMap fun j => coJ (X.co.getD j []) (X.co.getD j []).length
theorem coX_succ (X l) : coX X (l + 1) = coX X l ++ coJ (X.co.getD l []) (X.co.getD l []).length := by simp [coX, List.range_succ]
set_option maxRecDepth 100000 in
set_option maxHeartbeats 4000000 in
theorem sp_mCo (h70 : F 70 = some A_xref09_Co) (h27 : F 27 = some A_xref01_New) {X : Gr} (hn : X.evs.length ≤ 40) (hl : X.co.length ≤ 1000) (hc : ∀ j, j < X.co.length → (X.co.getD j []).length ≤ 1000 ∧ ∀ i, i < (X.co.getD j []).length → 0 ≤ (X.co.getD j []).getD i 0 ∧ (X.co.getD j []).getD i 0 < 40) : pureS F 70 [.agg (grC X)] = some (.ptr (matC X.evs.length (anyM (coX X X.co.length)))) := by
  refine pure_of_thaw h70 (matC_flat _ _) ?_
  simp (disch := omega) only [A_xref09_Co, wp, Nat.reduceAdd, Nat.reduceMul, Nat.reduceSub, gl, ml, thaw27 h27]
  refine W_loop (fun q e g => ∃ j : Nat, q = X.co.length - j ∧ j ≤ X.co.length ∧ e 1 = .mp 0 0 ∧ e 3 = .mp 5 0 ∧ e 4 = .i .i64 j ∧ g.hp 0 = some (.cells (grC X) false) ∧ g.hp 5 = some (.cells (matC X.evs.length (anyM (coX X j))) false) ∧ 5 < g.nx) X.co.length ?_ ?_
  · refine ⟨0, rfl, Nat.zero_le _, ?_⟩
    simp (disch := omega) only [wp, Nat.reduceAdd, Nat.reduceMul, Nat.reduceSub]
    exact ⟨rfl, rfl, by first | omega | (dsimp only; omega)⟩
  · rintro q e g ⟨j, rfl, hj, e1, e3, e4, hg, hm, hnx⟩
    by_cases hj' : j < X.co.length
    · have hj1 : (j : Int) < X.co.length := by omega
      have hwj := succ_wrap (k := j) (by omega)
      have hp := co_part hj'
      have hs := coX_succ X j
      obtain ⟨hcl, hcr⟩ := hc j hj'
      generalize X.co.getD j [] = c at hp hs hcl hcr
      generalize coX X j = L at hm hs
      simp (disch := omega) only [wp, Nat.reduceAdd, Nat.reduceMul, Nat.reduceSub, gl, ml, e1, e3, e4, hg, hm, hj1]
      refine W_loop (fun q e g => ∃ i : Nat, q = c.length - i ∧ i ≤ c.length ∧ e 1 = .mp 0 0 ∧ e 3 = .mp 5 0 ∧ e 4 = .i .i64 j ∧ e 5 = .i .i64 i ∧ g.hp 0 = some (.cells (grC X) false) ∧ g.hp 5 = some (.cells (matC X.evs.length (anyM (L ++ coJ c i))) false) ∧ 5 < g.nx) c.length ?_ ?_
      · refine ⟨0, rfl, Nat.zero_le _, ?_⟩
        simp (disch := omega) only [wp, Nat.reduceAdd, Nat.reduceMul, Nat.reduceSub, e1, e3, e4]
        exact ⟨rfl, hg, by rw [hm]; simp [coJ], by first | omega | (dsimp only; omega)⟩
      · rintro q e g ⟨i, rfl, hi, e1, e3, e4, e5, hg, hm, hnx⟩
        by_cases hi' : i < c.length
        · have hi1 : (i : Int) < c.length := by omega
          have hwi := succ_wrap (k := i) (by omega)
          have hip := ints_part hi'
          have hsJ := coJ_succ c i
          have ⟨ha0, ha1⟩ := hcr i hi'
          generalize hLJ : L ++ coJ c i = LJ at hm
          have hsJ' : L ++ coJ c (i + 1) = LJ ++ coI c i c.length := by rw [hsJ, ← List.append_assoc, hLJ]
          simp (disch := omega) only [wp, Nat.reduceAdd, Nat.reduceMul, Nat.reduceSub, gl, ml, e1, e3, e4, e5, hg, hm, hj1, hp, hi1, hwi]
          refine W_loop (fun q e g => ∃ k : Nat, q = c.length - k ∧ i < k ∧ k ≤ c.length ∧ e 1 = .mp 0 0 ∧ e 3 = .mp 5 0 ∧ e 4 = .i .i64 j ∧ e 5 = .i .i64 i ∧ e 6 = .i .i64 k ∧ g.hp 0 = some (.cells (grC X) false) ∧ g.hp 5 = some (.cells (matC X.evs.length (anyM (LJ ++ coI c i k))) false) ∧ 5 < g.nx) (c.length - (i + 1)) ?_ ?_
          · refine ⟨i + 1, rfl, by omega, by omega, ?_⟩
            simp (disch := omega) only [wp, Nat.reduceAdd, Nat.reduceMul, Nat.reduceSub, e1, e3, e4, e5, coI_0, List.append_nil]
            exact ⟨hg, hm, by first | omega | (dsimp only; omega)⟩
          · rintro q e g ⟨k, rfl, hik, hk, e1, e3, e4, e5, e6, hg, hm, hnx⟩
            by_cases hk' : k < c.length
            · have hk1 : (k : Int) < c.length := by omega
              have hwk := succ_wrap (k := k) (by omega)
              have hkp := ints_part hk'
              have hsI := coI_succ (c := c) hik
              have ⟨hb0, hb1⟩ := hcr k hk'
              generalize hLI : LJ ++ coI c i k = LI at hm
              have hsI' : LJ ++ coI c i (k + 1) = LI ++ [(c.getD i 0, c.getD k 0)] := by rw [hsI, ← List.append_assoc, hLI]
              generalize c.getD i 0 = va at hip ha0 ha1 hsI'
              generalize c.getD k 0 = vb at hkp hb0 hb1 hsI'
              have hadd := anyM_add LI ha0 hb0
              have hset := matC_set (n := X.evs.length) (M := anyM LI) (a := va.toNat) (b := vb.toNat) (x := true) (by omega)
              rw [hadd, ← hsI'] at hset
              simp (disch := omega) only [wp, Nat.reduceAdd, Nat.reduceMul, Nat.reduceSub, gl, ml, e1, e3, e4, e5, e6, hg, hm, hj1, hp, hi1, hk1, hip, hkp, hwk, hset]
              exact ⟨c.length - (k + 1), by omega, k + 1, rfl, by omega, by omega, rfl, rfl, by first | omega | (dsimp only; omega)⟩
            · obtain rfl : k = c.length := by omega
              have hk1 : ¬ ((c.length : Int) < c.length) := by omega
              simp (disch := omega) only [wp, Nat.reduceAdd, Nat.reduceMul, Nat.reduceSub, gl, ml, e1, e3, e4, e5, e6, hg, hm, hj1, hp, hk1, hwi]
              exact ⟨c.length - (i + 1), by omega, i + 1, rfl, by omega, rfl, by rw [hsJ'], by first | omega | (dsimp only; omega)⟩
        · obtain rfl : i = c.length := by omega
          have hi1 : ¬ ((c.length : Int) < c.length) := by omega
          simp (disch := omega) only [wp, Nat.reduceAdd, Nat.reduceMul, Nat.reduceSub, gl, ml, e1, e3, e4, e5, hg, hm, hj1, hp, hi1, hwj]
          exact ⟨X.co.length - (j + 1), by omega, j + 1, rfl, by omega, rfl, by rw [hs], by first | omega | (dsimp only; omega)⟩
    · obtain rfl : j = X.co.length := by omega
      have hj1 : ¬ ((X.co.length : Int) < X.co.length) := by omega
      simp (disch := omega) only [wp, Nat.reduceAdd, Nat.reduceMul, Nat.reduceSub, gl, ml, e1, e3, e4, hg, hm, hj1]
      exact ⟨_, rfl, hm⟩
end Go.Ab
end
section
set_option linter.unusedVariables false
set_option linter.unusedSimpArgs false
namespace Go.Ab
variable {F : Funs}
def frM (n : Nat) (A C : Mx) : Mx := thM (bkM A n n 0) C n n
def comM (n : Nat) (A C : Mx) : Mx := opM (fun x y => x || y) (opM (fun x y => x || y) A C n) (frM n A C) n
set_option maxRecDepth 100000 in
theorem sp_mFr (h71 : F 71 = some A_xref09_Fr) (h27 : F 27 = some A_xref01_New) (h32 : F 32 = some A_xref01_R_Then) (h33 : F 33 = some A_xref01_R_Back) {X : Gr} {n : Nat} (hn : n ≤ 40) {A C : Mx} (hA : pureS F 69 [.agg (grC X)] = some (.ptr (matC n A))) (hC : pureS F 70 [.agg (grC X)] = some (.ptr (matC n C))) : pureS F 71 [.agg (grC X)] = some (.ptr (matC n (frM n A C))) := by
  refine pure_of h71 ?_
  simp (disch := omega) only [A_xref09_Fr, wp, Nat.reduceAdd, Nat.reduceMul, Nat.reduceSub, gl, hA, hC, sp_mback h33 h27 hn, sp_mthen h32 h27 hn hn, Nat.max_self]
  rfl
set_option maxRecDepth 100000 in
theorem sp_mCom (h83 : F 83 = some A_xref09_Com) (h27 : F 27 = some A_xref01_New) (h29 : F 29 = some A_xref01_R_Or) {X : Gr} {n : Nat} (hn : n ≤ 40) {A C : Mx} (hA : pureS F 69 [.agg (grC X)] = some (.ptr (matC n A))) (hC : pureS F 70 [.agg (grC X)] = some (.ptr (matC n C))) (hF : pureS F 71 [.agg (grC X)] = some (.ptr (matC n (frM n A C)))) : pureS F 83 [.agg (grC X)] = some (.ptr (matC n (comM n A C))) := by
  refine pure_of h83 ?_
  simp (disch := omega) only [A_xref09_Com, wp, Nat.reduceAdd, Nat.reduceMul, Nat.reduceSub, gl, hA, hC, hF, sp_mor h29 h27 hn hn, Nat.max_self]
  rfl
set_option maxRecDepth 100000 in
theorem sp_mEco (h72 : F 72 = some A_xref09_Eco) (h27 : F 27 = some A_xref01_New) (h34 : F 34 = some A_xref01_R_Plus) {X : Gr} {n : Nat} (hn : n ≤ 40) {M : Mx} (hM : pureS F 83 [.agg (grC X)] = some (.ptr (matC n M))) : pureS F 72 [.agg (grC X)] = some (.ptr (matC n (plM n M n))) := by
  refine pure_of h72 ?_
  simp (disch := omega) only [A_xref09_Eco, wp, Nat.reduceAdd, Nat.reduceMul, Nat.reduceSub, gl, hM, sp_mplus h34 h27 hn]
def stU (φ : Nat → Nat → Bool) (n a b : Nat) : Mx := fun i j => if (i < a ∧ i < j ∧ j < n) ∨ (i = a ∧ i < j ∧ j < b) then φ i j else false
theorem stU_succ {φ : Nat → Nat → Bool} {n a b : Nat} (h : a < b) : upd2 (stU φ n a b) a b (φ a b) = stU φ n a (b + 1) := by
  funext i j
  unfold upd2 stU
  by_cases h1 : i = a ∧ j = b
  · obtain ⟨rfl, rfl⟩ := h1
    rw [if_pos ⟨rfl, rfl⟩, if_pos (by omega)]
  · rw [if_neg h1]
    by_cases h2 : (i < a ∧ i < j ∧ j < n) ∨ (i = a ∧ i < j ∧ j < b)
    · rw [if_pos h2, if_pos (by omega)]
    · rw [if_neg h2, if_neg (by omega)]
theorem stU_row (φ : Nat → Nat → Bool) (n a : Nat) : stU φ n a n = stU φ n (a + 1) (a + 1 + 1) := by
  funext i j
  unfold stU
  by_cases h2 : (i < a ∧ i < j ∧ j < n) ∨ (i = a ∧ i < j ∧ j < n)
  · rw [if_pos h2, if_pos (by omega)]
  · rw [if_neg h2, if_neg (by omega)]
theorem stU_0 (φ : Nat → Nat → Bool) (n : Nat) : stU φ n 0 (0 + 1) = fun _ _ => false := by
  funext i j; unfold stU; rw [if_neg (by omega)]
def thI (X : Gr) (i : Nat) : Int := (X.evs.getD i ev0).th
def poV (X : Gr) (i j : Nat) : Bool := (thI X i == 0 && decide (0 < thI X j)) || (decide (0 < thI X i) && thI X i == thI X j)
set_option maxRecDepth 100000 in
set_option maxHeartbeats 4000000 in
theorem po_W (h27 : F 27 = some A_xref01_New) {X : Gr} (hn : X.evs.length ≤ 40) : W F A_xref06_Po.body (argEnv [.agg (grC X)]) g0 (retT A_xref06_Po.res (matC X.evs.length (stU (poV X) X.evs.length X.evs.length (X.evs.length + 1)))) := by
  simp (disch := omega) only [A_xref06_Po, wp, Nat.reduceAdd, Nat.reduceMul, Nat.reduceSub, gl, ml, thaw27 h27]
  refine W_loop (fun q e g => ∃ a : Nat, q = X.evs.length - a ∧ a ≤ X.evs.length ∧ e 1 = .mp 0 0 ∧ e 3 = .mp 5 0 ∧ e 4 = .i .i64 a ∧ g.hp 0 = some (.cells (grC X) false) ∧ g.hp 5 = some (.cells (matC X.evs.length (stU (poV X) X.evs.length a (a + 1))) false) ∧ 5 < g.nx) X.evs.length ?_ ?_
  · refine ⟨0, rfl, Nat.zero_le _, ?_⟩
    simp (disch := omega) only [wp, Nat.reduceAdd, Nat.reduceMul, Nat.reduceSub]
    exact ⟨rfl, by rw [stU_0], by first | omega | (dsimp only; omega)⟩
  · rintro q e g ⟨a, rfl, ha, e1, e3, e4, hg, hm, hnx⟩
    by_cases ha' : a < X.evs.length
    · have ha1 : (a : Int) < X.evs.length := by omega
      have hwa := succ_wrap (k := a) (by omega)
      simp (disch := omega) only [wp, Nat.reduceAdd, Nat.reduceMul, Nat.reduceSub, gl, ml, e1, e3, e4, hg, hm, ha1, hwa]
      refine W_loop (fun q e g => ∃ b : Nat, q = X.evs.length - b ∧ a < b ∧ b ≤ X.evs.length ∧ e 1 = .mp 0 0 ∧ e 3 = .mp 5 0 ∧ e 4 = .i .i64 a ∧ e 5 = .i .i64 b ∧ g.hp 0 = some (.cells (grC X) false) ∧ g.hp 5 = some (.cells (matC X.evs.length (stU (poV X) X.evs.length a b)) false) ∧ 5 < g.nx) (X.evs.length - (a + 1)) ?_ ?_
      · refine ⟨a + 1, rfl, by omega, by omega, ?_⟩
        simp (disch := omega) only [wp, Nat.reduceAdd, Nat.reduceMul, Nat.reduceSub, e1, e3, e4]
        exact ⟨hg, hm, by first | omega | (dsimp only; omega)⟩
      · rintro q e g ⟨b, rfl, hab, hb, e1, e3, e4, e5, hg, hm, hnx⟩
        by_cases hb' : b < X.evs.length
        · have hb1 : (b : Int) < X.evs.length := by omega
          have hwb := succ_wrap (k := b) (by omega)
          have tA := ev_th_at ha'
          have tB := ev_th_at hb'
          have dA : (List.drop (a * 6) (evsC X.evs)).length = X.evs.length * 6 - a * 6 := by rw [List.length_drop, evsC_len]
          have dB : (List.drop (b * 6) (evsC X.evs)).length = X.evs.length * 6 - b * 6 := by rw [List.length_drop, evsC_len]
          have hv : poV X a b = ((thI X a == 0 && decide (0 < thI X b)) || (decide (0 < thI X a) && thI X a == thI X b)) := rfl
          have hs := stU_succ (φ := poV X) (n := X.evs.length) hab
          have hset := fun x => matC_set (n := X.evs.length) (M := stU (poV X) X.evs.length a b) (a := a) (b := b) (x := x) (by omega)
          unfold thI at hv
          generalize (X.evs.getD a ev0).th = ta at tA hv
          generalize (X.evs.getD b ev0).th = tb at tB hv
          generalize poV X a b = v at hs hv
          have fin : ∀ x, x = v → X.evs.length - (b + 1) < X.evs.length - b ∧ upd2 (stU (poV X) X.evs.length a b) a b x = stU (poV X) X.evs.length a (b + 1) := fun x hx => ⟨by omega, by rw [hx, hs]⟩
          cases c1 : (ta == 0)
          case true =>
            by_cases c2 : 0 < tb
            case pos =>
              simp (disch := omega) only [wp, Nat.reduceAdd, Nat.reduceMul, Nat.reduceSub, gl, ml, e1, e3, e4, e5, hg, hm, hb1, tA, tB, dA, dB, c1, c2, hset, hwb]
              obtain ⟨f1, f2⟩ := fin true (by rw [hv, c1, decide_eq_true c2]; rfl)
              exact ⟨_, f1, b + 1, rfl, by omega, by omega, rfl, by rw [f2], by first | omega | (dsimp only; omega)⟩
            have c3 : ¬ 0 < ta := by have : ta = 0 := by simpa using c1
                                     omega
            simp (disch := omega) only [wp, Nat.reduceAdd, Nat.reduceMul, Nat.reduceSub, gl, ml, e1, e3, e4, e5, hg, hm, hb1, tA, tB, dA, dB, c1, c2, c3, hset, hwb]
            obtain ⟨f1, f2⟩ := fin false (by rw [hv, c1, decide_eq_false c2, decide_eq_false c3]; rfl)
            exact ⟨_, f1, b + 1, rfl, by omega, by omega, rfl, by rw [f2], by first | omega | (dsimp only; omega)⟩
          by_cases c3 : 0 < ta
          case neg =>
            simp (disch := omega) only [wp, Nat.reduceAdd, Nat.reduceMul, Nat.reduceSub, gl, ml, e1, e3, e4, e5, hg, hm, hb1, tA, tB, dA, dB, c1, c3, hset, hwb]
            obtain ⟨f1, f2⟩ := fin false (by rw [hv, c1, decide_eq_false c3]; rfl)
            exact ⟨_, f1, b + 1, rfl, by omega, by omega, rfl, by rw [f2], by first | omega | (dsimp only; omega)⟩
          simp (disch := omega) only [wp, Nat.reduceAdd, Nat.reduceMul, Nat.reduceSub, gl, ml, e1, e3, e4, e5, hg, hm, hb1, tA, tB, dA, dB, c1, c3, hset, hwb]
          obtain ⟨f1, f2⟩ := fin (ta == tb) (by rw [hv, c1, decide_eq_true c3]; simp)
          exact ⟨_, f1, b + 1, rfl, by omega, by omega, rfl, by rw [f2], by first | omega | (dsimp only; omega)⟩
        · obtain rfl : b = X.evs.length := by omega
          have hb1 : ¬ ((X.evs.length : Int) < X.evs.length) := by omega
          simp (disch := omega) only [wp, Nat.reduceAdd, Nat.reduceMul, Nat.reduceSub, gl, ml, e1, e3, e4, e5, hg, hm, hb1, hwa]
          exact ⟨X.evs.length - (a + 1), by omega, a + 1, rfl, by omega, rfl, by rw [stU_row], by first | omega | (dsimp only; omega)⟩
    · obtain rfl : a = X.evs.length := by omega
      have ha1 : ¬ ((X.evs.length : Int) < X.evs.length) := by omega
      simp (disch := omega) only [wp, Nat.reduceAdd, Nat.reduceMul, Nat.reduceSub, gl, ml, e1, e3, e4, hg, hm, ha1]
      exact ⟨_, rfl, hm⟩
def mpoM (X : Gr) : Mx := stU (poV X) X.evs.length X.evs.length (X.evs.length + 1)
theorem sp_mPo (h84 : F 84 = some A_xref06_Po) (h27 : F 27 = some A_xref01_New) {X : Gr} (hn : X.evs.length ≤ 40) : pureS F 84 [.agg (grC X)] = some (.ptr (matC X.evs.length (mpoM X))) := pure_of_thaw h84 (matC_flat _ _) (po_W h27 hn)
theorem thaw84 (h84 : F 84 = some A_xref06_Po) (h27 : F 27 = some A_xref01_New) {X : Gr} (hn : X.evs.length ≤ 40) (al : Nat → Bool) (id : Nat) (g : G) : vThaw F al id (.fn 84 [] []) [.agg (grC X)] g = some (.mp id 0, ⟨upd g.hp id (some (.cells (matC X.evs.length (mpoM X)) false)), g.nx⟩) :=
  vThaw_S (bs := [.agg (grC X)]) (by simp only [frzL_cons, frz_gr, frzL_nil, consO_ok]) (thaw_of h84 (matC_flat _ _) (po_W h27 hn)) (by simp only [List.flatMap_cons, List.flatMap_nil, vis_gr, List.append_nil])
end Go.Ab
end
section
set_option linter.unusedVariables false
set_option linter.unusedSimpArgs false
namespace Go.Ab
variable {F : Funs}
def stK (M : Mx) (φ : Nat → Nat → Bool) (n a b : Nat) : Mx := fun i j => if (i < a ∧ j < n) ∨ (i = a ∧ j < b) then M i j && φ i j else M i j
theorem stK_succ (M φ n a b) : upd2 (stK M φ n a b) a b (M a b && φ a b) = stK M φ n a (b + 1) := by
  funext i j
  unfold upd2 stK
  by_cases h1 : i = a ∧ j = b
  · obtain ⟨rfl, rfl⟩ := h1
    rw [if_pos ⟨rfl, rfl⟩, if_pos (by omega)]
  · rw [if_neg h1]
    by_cases h2 : (i < a ∧ j < n) ∨ (i = a ∧ j < b)
    · rw [if_pos h2, if_pos (by omega)]
    · rw [if_neg h2, if_neg (by omega)]
theorem stK_row (M φ n a) : stK M φ n a n = stK M φ n (a + 1) 0 := by
  funext i j
  unfold stK
  by_cases h2 : (i < a ∧ j < n) ∨ (i = a ∧ j < n)
  · rw [if_pos h2, if_pos (by omega)]
  · rw [if_neg h2, if_neg (by omega)]
theorem stK_0 (M φ n) : stK M φ n 0 0 = M := by funext i j; unfold stK; rw [if_neg (by omega)]
theorem stK_at (M φ n a b) : stK M φ n a b a b = M a b := by unfold stK; rw [if_neg (by omega)]
def locV (X : Gr) (i j : Nat) : Bool := (X.evs.getD i ev0).kd != 3 && ((X.evs.getD j ev0).kd != 3 && (X.evs.getD i ev0).lc == (X.evs.getD j ev0).lc)
def locM (X : Gr) : Mx := stK (mpoM X) (locV X) X.evs.length X.evs.length 0
set_option maxRecDepth 100000 in
set_option maxHeartbeats 4000000 in
theorem sp_mLoc (h73 : F 73 = some A_xref09_Loc) (h84 : F 84 = some A_xref06_Po) (h27 : F 27 = some A_xref01_New) {X : Gr} (hn : X.evs.length ≤ 40) : pureS F 73 [.agg (grC X)] = some (.ptr (matC X.evs.length (locM X))) := by
  refine pure_of_thaw h73 (matC_flat _ _) ?_
  have s6 : ∀ b1 b2 b3 b4 b5 b6 c1 c2 c3 c4 c5 c6 : AV, splice [b1, b2, b3, b4, b5, b6] 0 [c1, c2, c3, c4, c5, c6] = [c1, c2, c3, c4, c5, c6] := fun _ _ _ _ _ _ _ _ _ _ _ _ => rfl
  simp (disch := omega) only [A_xref09_Loc, wp, Nat.reduceAdd, Nat.reduceMul, Nat.reduceSub, gl, ml, thaw84 h84 h27 hn]
  generalize hM0 : mpoM X = M0
  have hloc : locM X = stK M0 (locV X) X.evs.length X.evs.length 0 := by unfold locM; rw [hM0]
  refine W_loop (fun q e g => ∃ a : Nat, q = X.evs.length - a ∧ a ≤ X.evs.length ∧ e 1 = .mp 0 0 ∧ e 3 = .mp 3 0 ∧ e 4 = .i .i64 a ∧ g.hp 0 = some (.cells (grC X) false) ∧ g.hp 3 = some (.cells (matC X.evs.length (stK M0 (locV X) X.evs.length a 0)) false) ∧ 3 < g.nx) X.evs.length ?_ ?_
  · refine ⟨0, rfl, Nat.zero_le _, ?_⟩
    simp (disch := omega) only [wp, Nat.reduceAdd, Nat.reduceMul, Nat.reduceSub]
    exact ⟨rfl, by rw [stK_0], by first | omega | (dsimp only; omega)⟩
  · rintro q e g ⟨a, rfl, ha, e1, e3, e4, hg, hm, hnx⟩
    by_cases ha' : a < X.evs.length
    · have ha1 : (a : Int) < X.evs.length := by omega
      have hwa := succ_wrap (k := a) (by omega)
      simp (disch := omega) only [wp, Nat.reduceAdd, Nat.reduceMul, Nat.reduceSub, gl, ml, e1, e3, e4, hg, hm, ha1]
      refine W_loop (fun q e g => ∃ b : Nat, q = X.evs.length - b ∧ b ≤ X.evs.length ∧ e 1 = .mp 0 0 ∧ e 3 = .mp 3 0 ∧ e 4 = .i .i64 a ∧ e 5 = .i .i64 b ∧ g.hp 0 = some (.cells (grC X) false) ∧ g.hp 3 = some (.cells (matC X.evs.length (stK M0 (locV X) X.evs.length a b)) false) ∧ 3 < g.nx) X.evs.length ?_ ?_
      · refine ⟨0, rfl, Nat.zero_le _, ?_⟩
        simp (disch := omega) only [wp, Nat.reduceAdd, Nat.reduceMul, Nat.reduceSub, e1, e3, e4]
        exact ⟨rfl, hg, hm, by first | omega | (dsimp only; omega)⟩
      · rintro q e g ⟨b, rfl, hb, e1, e3, e4, e5, hg, hm, hnx⟩
        by_cases hb' : b < X.evs.length
        · have hb1 : (b : Int) < X.evs.length := by omega
          have hwb := succ_wrap (k := b) (by omega)
          have pa := ev_part ha'
          have pb := ev_part hb'
          have hv : locV X a b = ((X.evs.getD a ev0).kd != 3 && ((X.evs.getD b ev0).kd != 3 && (X.evs.getD a ev0).lc == (X.evs.getD b ev0).lc)) := rfl
          have hs := stK_succ M0 (locV X) X.evs.length a b
          have hat := stK_at M0 (locV X) X.evs.length a b
          have hset := fun x => matC_set (n := X.evs.length) (M := stK M0 (locV X) X.evs.length a b) (a := a) (b := b) (x := x) (by omega)
          generalize X.evs.getD a ev0 = u at pa hv
          generalize X.evs.getD b ev0 = v at pb hv
          obtain ⟨th, kd, md, lc, vl, ex⟩ := u
          obtain ⟨th', kd', md', lc', vl', ex'⟩ := v
          simp only at hv
          generalize locV X a b = z at hs hv
          have fin : ∀ x, x = (M0 a b && z) → X.evs.length - (b + 1) < X.evs.length - b ∧ upd2 (stK M0 (locV X) X.evs.length a b) a b x = stK M0 (locV X) X.evs.length a (b + 1) := fun x hx => ⟨by omega, by rw [hx, hs]⟩
          cases c0 : M0 a b
          case false =>
            rw [c0] at hat
            simp (disch := omega) only [wp, Nat.reduceAdd, Nat.reduceMul, Nat.reduceSub, gl, ml, e1, e3, e4, e5, hg, hm, ha1, hb1, pa, pb, s6, hat, c0, hset, hwb]
            obtain ⟨f1, f2⟩ := fin false (by rw [c0]; rfl)
            exact ⟨_, f1, b + 1, rfl, by omega, rfl, by rw [f2], by first | omega | (dsimp only; omega)⟩
          rw [c0] at hat
          cases c1 : (kd != 3)
          case false =>
            simp (disch := omega) only [wp, Nat.reduceAdd, Nat.reduceMul, Nat.reduceSub, gl, ml, e1, e3, e4, e5, hg, hm, ha1, hb1, pa, pb, s6, hat, c0, c1, hset, hwb]
            obtain ⟨f1, f2⟩ := fin false (by rw [c0, hv, c1]; rfl)
            exact ⟨_, f1, b + 1, rfl, by omega, rfl, by rw [f2], by first | omega | (dsimp only; omega)⟩
          cases c2 : (kd' != 3)
          case false =>
            simp (disch := omega) only [wp, Nat.reduceAdd, Nat.reduceMul, Nat.reduceSub, gl, ml, e1, e3, e4, e5, hg, hm, ha1, hb1, pa, pb, s6, hat, c0, c1, c2, hset, hwb]
            obtain ⟨f1, f2⟩ := fin false (by rw [c0, hv, c1, c2]; rfl)
            exact ⟨_, f1, b + 1, rfl, by omega, rfl, by rw [f2], by first | omega | (dsimp only; omega)⟩
          simp (disch := omega) only [wp, Nat.reduceAdd, Nat.reduceMul, Nat.reduceSub, gl, ml, e1, e3, e4, e5, hg, hm, ha1, hb1, pa, pb, s6, hat, c0, c1, c2, hset, hwb]
          obtain ⟨f1, f2⟩ := fin (lc == lc') (by rw [c0, hv, c1, c2]; simp)
          exact ⟨_, f1, b + 1, rfl, by omega, rfl, by rw [f2], by first | omega | (dsimp only; omega)⟩
        · obtain rfl : b = X.evs.length := by omega
          have hb1 : ¬ ((X.evs.length : Int) < X.evs.length) := by omega
          simp (disch := omega) only [wp, Nat.reduceAdd, Nat.reduceMul, Nat.reduceSub, gl, ml, e1, e3, e4, e5, hg, hm, hb1, hwa]
          exact ⟨X.evs.length - (a + 1), by omega, a + 1, rfl, by omega, rfl, by rw [stK_row], by first | omega | (dsimp only; omega)⟩
    · obtain rfl : a = X.evs.length := by omega
      have ha1 : ¬ ((X.evs.length : Int) < X.evs.length) := by omega
      simp (disch := omega) only [wp, Nat.reduceAdd, Nat.reduceMul, Nat.reduceSub, gl, ml, e1, e3, e4, hg, hm, ha1, hloc]
      exact ⟨_, rfl, hm⟩
def thV (X : Gr) (one : Bool) : Mx := fun i j => (thI X i == thI X j) == one
def prtM (X : Gr) (one : Bool) (A : Mx) : Mx := opM (fun x y => x && y) A (thV X one) X.evs.length
set_option maxRecDepth 100000 in
set_option maxHeartbeats 4000000 in
theorem sp_mpart (h85 : F 85 = some A_xref09_part) (h27 : F 27 = some A_xref01_New) {X : Gr} (hn : X.evs.length ≤ 40) (A : Mx) (one : Bool) : pureS F 85 [.agg (grC X), .ptr (matC X.evs.length A), .b one] = some (.ptr (matC X.evs.length (prtM X one A))) := by
  refine pure_of_thaw h85 (matC_flat _ _) ?_
  have fin0 : prtM X one A = stM (fun x y => x && y) A (thV X one) X.evs.length X.evs.length 0 := rfl
  simp (disch := omega) only [A_xref09_part, wp, Nat.reduceAdd, Nat.reduceMul, Nat.reduceSub, gl, ml, thaw27 h27]
  generalize hB : thV X one = B at fin0
  refine W_loop (fun q e g => ∃ a : Nat, q = X.evs.length - a ∧ a ≤ X.evs.length ∧ e 1 = .ptr (matC X.evs.length A) ∧ e 2 = .b one ∧ e 3 = .mp 0 0 ∧ e 7 = .mp 6 0 ∧ e 8 = .i .i64 a ∧ g.hp 0 = some (.cells (grC X) false) ∧ g.hp 6 = some (.cells (matC X.evs.length (stM (fun x y => x && y) A B X.evs.length a 0)) false) ∧ 6 < g.nx) X.evs.length ?_ ?_
  · refine ⟨0, rfl, Nat.zero_le _, ?_⟩
    simp (disch := omega) only [wp, Nat.reduceAdd, Nat.reduceMul, Nat.reduceSub]
    exact ⟨rfl, by rw [stM_0], by first | omega | (dsimp only; omega)⟩
  · rintro q e g ⟨a, rfl, ha, e1, e2, e3, e7, e8, hg, hm, hnx⟩
    by_cases ha' : a < X.evs.length
    · have ha1 : (a : Int) < X.evs.length := by omega
      have hwa := succ_wrap (k := a) (by omega)
      simp (disch := omega) only [wp, Nat.reduceAdd, Nat.reduceMul, Nat.reduceSub, gl, ml, e1, e2, e3, e7, e8, hg, hm, ha1]
      refine W_loop (fun q e g => ∃ b : Nat, q = X.evs.length - b ∧ b ≤ X.evs.length ∧ e 1 = .ptr (matC X.evs.length A) ∧ e 2 = .b one ∧ e 3 = .mp 0 0 ∧ e 7 = .mp 6 0 ∧ e 8 = .i .i64 a ∧ e 9 = .i .i64 b ∧ g.hp 0 = some (.cells (grC X) false) ∧ g.hp 6 = some (.cells (matC X.evs.length (stM (fun x y => x && y) A B X.evs.length a b)) false) ∧ 6 < g.nx) X.evs.length ?_ ?_
      · refine ⟨0, rfl, Nat.zero_le _, ?_⟩
        simp (disch := omega) only [wp, Nat.reduceAdd, Nat.reduceMul, Nat.reduceSub, e1, e2, e3, e7, e8]
        exact ⟨rfl, hg, hm, by first | omega | (dsimp only; omega)⟩
      · rintro q e g ⟨b, rfl, hb, e1, e2, e3, e7, e8, e9, hg, hm, hnx⟩
        by_cases hb' : b < X.evs.length
        · have hb1 : (b : Int) < X.evs.length := by omega
          have hwb := succ_wrap (k := b) (by omega)
          have tA := ev_th_at ha'
          have tB := ev_th_at hb'
          have dA : (List.drop (a * 6) (evsC X.evs)).length = X.evs.length * 6 - a * 6 := by rw [List.length_drop, evsC_len]
          have dB : (List.drop (b * 6) (evsC X.evs)).length = X.evs.length * 6 - b * 6 := by rw [List.length_drop, evsC_len]
          have hv : B a b = (((X.evs.getD a ev0).th == (X.evs.getD b ev0).th) == one) := by rw [← hB]; rfl
          have hs := stM_succ (fun x y => x && y) A B X.evs.length a b
          have hset := fun x => matC_set (n := X.evs.length) (M := stM (fun x y => x && y) A B X.evs.length a b) (a := a) (b := b) (x := x) (by omega)
          generalize (X.evs.getD a ev0).th = ta at tA hv
          generalize (X.evs.getD b ev0).th = tb at tB hv
          have fin : ∀ x, x = (A a b && B a b) → X.evs.length - (b + 1) < X.evs.length - b ∧ upd2 (stM (fun x y => x && y) A B X.evs.length a b) a b x = stM (fun x y => x && y) A B X.evs.length a (b + 1) := fun x hx => ⟨by omega, by rw [hx]; exact hs⟩
          cases c0 : A a b
          case false =>
            simp (disch := omega) only [wp, Nat.reduceAdd, Nat.reduceMul, Nat.reduceSub, gl, ml, e1, e2, e3, e7, e8, e9, hg, hm, ha1, hb1, tA, tB, dA, dB, c0, hset, hwb]
            obtain ⟨f1, f2⟩ := fin false (by rw [c0]; rfl)
            exact ⟨_, f1, b + 1, rfl, by omega, rfl, by rw [f2], by first | omega | (dsimp only; omega)⟩
          simp (disch := omega) only [wp, Nat.reduceAdd, Nat.reduceMul, Nat.reduceSub, gl, ml, e1, e2, e3, e7, e8, e9, hg, hm, ha1, hb1, tA, tB, dA, dB, c0, hset, hwb]
          obtain ⟨f1, f2⟩ := fin ((ta == tb) == one) (by rw [c0, hv]; rfl)
          exact ⟨_, f1, b + 1, rfl, by omega, rfl, by rw [f2], by first | omega | (dsimp only; omega)⟩
        · obtain rfl : b = X.evs.length := by omega
          have hb1 : ¬ ((X.evs.length : Int) < X.evs.length) := by omega
          simp (disch := omega) only [wp, Nat.reduceAdd, Nat.reduceMul, Nat.reduceSub, gl, ml, e1, e2, e3, e7, e8, e9, hg, hm, hb1, hwa]
          exact ⟨X.evs.length - (a + 1), by omega, a + 1, rfl, by omega, rfl, by rw [stM_row], by first | omega | (dsimp only; omega)⟩
    · obtain rfl : a = X.evs.length := by omega
      have ha1 : ¬ ((X.evs.length : Int) < X.evs.length) := by omega
      simp (disch := omega) only [wp, Nat.reduceAdd, Nat.reduceMul, Nat.reduceSub, gl, ml, e1, e2, e3, e7, e8, hg, hm, ha1, fin0]
      exact ⟨_, rfl, hm⟩
set_option maxRecDepth 100000 in
theorem sp_mInner (h74 : F 74 = some A_xref09_Inner) (h85 : F 85 = some A_xref09_part) (h27 : F 27 = some A_xref01_New) {X : Gr} (hn : X.evs.length ≤ 40) (A : Mx) : pureS F 74 [.agg (grC X), .ptr (matC X.evs.length A)] = some (.ptr (matC X.evs.length (prtM X true A))) := by
  refine pure_of h74 ?_
  simp (disch := omega) only [A_xref09_Inner, wp, Nat.reduceAdd, Nat.reduceMul, Nat.reduceSub, gl, sp_mpart h85 h27 hn]
set_option maxRecDepth 100000 in
theorem sp_mOuter (h75 : F 75 = some A_xref09_Outer) (h85 : F 85 = some A_xref09_part) (h27 : F 27 = some A_xref01_New) {X : Gr} (hn : X.evs.length ≤ 40) (A : Mx) : pureS F 75 [.agg (grC X), .ptr (matC X.evs.length A)] = some (.ptr (matC X.evs.length (prtM X false A))) := by
  refine pure_of h75 ?_
  simp (disch := omega) only [A_xref09_Outer, wp, Nat.reduceAdd, Nat.reduceMul, Nat.reduceSub, gl, sp_mpart h85 h27 hn]
end Go.Ab
end
section
set_option linter.unusedVariables false
set_option linter.unusedSimpArgs false
namespace Go.Ab
variable {F : Funs}
theorem GraphOk.nOf {X : Gr} (h : GraphOk X) : nOf X = X.evs.length := by
  have := h.n40
  unfold Go.Ab.nOf clamp; omega
theorem hb_newM {n : Nat} (hn : n ≤ 40) (L : List (Int × Int)) {a b : Nat} (ha : a < n) (hb' : b < n) : hb (newR n L) a b = anyM L a b := by
  rw [hb_new hn, decide_eq_true ha, decide_eq_true hb', Bool.true_and, Bool.true_and]; rfl
theorem sameL {n : Nat} (hn : n ≤ 40) {L L' : List (Int × Int)} (h : ∀ a b : Nat, a < n → b < n → (((a : Int), (b : Int)) ∈ L ↔ ((a : Int), (b : Int)) ∈ L')) {a b : Nat} (ha : a < n) (hb' : b < n) : anyM L a b = hb (newR n L') a b := by
  rw [hb_newM hn _ ha hb', Bool.eq_iff_iff, anyM_mem, anyM_mem]
  exact h a b ha hb'
theorem aft_spec (w : Int) (c : List Int) : ∀ k, k ≤ c.length → (∀ b, b ∈ (aft w (c.take k)).1 ↔ ∃ i m, i < m ∧ m < k ∧ c.getD i 0 = w ∧ c.getD m 0 = b) ∧ ((aft w (c.take k)).2 = true ↔ ∃ i, i < k ∧ c.getD i 0 = w) := by
  intro k
  induction k with
  | zero => intro _; constructor
            · intro b; simp [aft]
            · simp [aft]
  | succ k ih =>
    intro hk
    obtain ⟨h1, h2⟩ := ih (by omega)
    rw [aft_take (by omega)]
    unfold aftS
    constructor
    · intro b
      simp only
      cases hm : (aft w (c.take k)).2 with
      | true =>
        obtain ⟨i0, hi0, hw⟩ := h2.1 hm
        rw [if_pos rfl, List.mem_append, h1 b, List.mem_singleton]
        constructor
        · rintro (⟨i, m, him, hmk, ha, hb'⟩ | rfl)
          · exact ⟨i, m, him, by omega, ha, hb'⟩
          · exact ⟨i0, k, hi0, by omega, hw, rfl⟩
        · rintro ⟨i, m, him, hmk, ha, hb'⟩
          by_cases hmk' : m = k
          · right; subst hmk'; exact hb'.symm
          · left; exact ⟨i, m, him, by omega, ha, hb'⟩
      | false =>
        rw [if_neg (by simp), h1 b]
        constructor
        · rintro ⟨i, m, him, hmk, ha, hb'⟩; exact ⟨i, m, him, by omega, ha, hb'⟩
        · rintro ⟨i, m, him, hmk, ha, hb'⟩
          by_cases hmk' : m = k
          · have := h2.2 ⟨i, by omega, ha⟩
            rw [hm] at this; cases this
          · exact ⟨i, m, him, by omega, ha, hb'⟩
    · simp only [Bool.or_eq_true, beq_iff_eq, h2]
      constructor
      · rintro (⟨i, hi, hw⟩ | hw)
        · exact ⟨i, by omega, hw⟩
        · exact ⟨k, by omega, hw⟩
      · rintro ⟨i, hi, hw⟩
        by_cases hik : i = k
        · right; subst hik; exact hw
        · left; exact ⟨i, by omega, hw⟩
theorem mem_aft {w : Int} {c : List Int} {b : Int} : b ∈ (aft w c).1 ↔ ∃ i m, i < m ∧ m < c.length ∧ c.getD i 0 = w ∧ c.getD m 0 = b := by
  have := (aft_spec w c c.length (Nat.le_refl _)).1 b
  rwa [List.take_length] at this
theorem mem_beh {a w x y : Int} {co : List (List Int)} : (x, y) ∈ behL a w co ↔ x = a ∧ ∃ j i m, j < co.length ∧ i < m ∧ m < (co.getD j []).length ∧ (co.getD j []).getD i 0 = w ∧ (co.getD j []).getD m 0 = y := by
  unfold behL
  simp only [List.mem_flatMap, List.mem_map, Prod.mk.injEq]
  constructor
  · rintro ⟨c, hc, z, hz, rfl, rfl⟩
    obtain ⟨j, hj, rfl⟩ := List.getElem_of_mem hc
    obtain ⟨i, m, h1, h2, h3, h4⟩ := mem_aft.1 hz
    have e : co.getD j [] = co[j] := by rw [List.getD_eq_getElem?_getD, List.getElem?_eq_getElem hj]; rfl
    exact ⟨rfl, j, i, m, hj, h1, by rw [e]; exact h2, by rw [e]; exact h3, by rw [e]; exact h4⟩
  · rintro ⟨rfl, j, i, m, hj, h1, h2, h3, h4⟩
    have e : co.getD j [] = co[j] := by rw [List.getD_eq_getElem?_getD, List.getElem?_eq_getElem hj]; rfl
    rw [e] at h2 h3 h4
    exact ⟨co[j], List.getElem_mem hj, y, mem_aft.2 ⟨i, m, h1, h2, h3, h4⟩, rfl, rfl⟩
theorem mem_coX {X : Gr} {x y : Int} : (x, y) ∈ coX X X.co.length ↔ ∃ j i m, j < X.co.length ∧ i < m ∧ m < (X.co.getD j []).length ∧ (X.co.getD j []).getD i 0 = x ∧ (X.co.getD j []).getD m 0 = y := by
  unfold coX coJ coI
  simp only [List.mem_flatMap, List.mem_range]
  constructor
  · rintro ⟨j, hj, i, hi, m, hm, h⟩
    by_cases him : i < m
    · rw [if_pos him, List.mem_singleton, Prod.mk.injEq] at h
      exact ⟨j, i, m, hj, him, hm, h.1.symm, h.2.symm⟩
    · rw [if_neg him] at h; cases h
  · rintro ⟨j, i, m, hj, him, hm, h1, h2⟩
    exact ⟨j, hj, i, by omega, m, hm, by rw [if_pos him, h1, h2]; exact List.mem_singleton.2 rfl⟩
section
variable {X : Gr} (h : GraphOk X)
include h
theorem GraphOk.rfr (i : Nat) (hi : i < X.evs.length) : (0 ≤ X.rf.getD i 0 ↔ (X.evs.getD i ev0).kd = 1) ∧ X.rf.getD i 0 < X.evs.length := by
  obtain ⟨h1, h2⟩ := h.rf i hi
  by_cases hk : (X.evs.getD i ev0).kd = 1
  · obtain ⟨h3, h4, _⟩ := h2 hk
    exact ⟨⟨fun _ => hk, fun _ => h3⟩, h4⟩
  · have := h1 hk
    exact ⟨⟨fun h => by omega, fun h => absurd h hk⟩, by omega⟩
theorem GraphOk.cor (j : Nat) (hj : j < X.co.length) (i : Nat) (hi : i < (X.co.getD j []).length) : 0 ≤ (X.co.getD j []).getD i 0 ∧ (X.co.getD j []).getD i 0 < X.evs.length ∧ (X.evs.getD ((X.co.getD j []).getD i 0).toNat ev0).kd = 2 := by
  obtain ⟨h1, h2, h3, _⟩ := (h.co j hj).wr i hi
  exact ⟨h1, h2, h3⟩
theorem mem_rfL {x y : Int} : (x, y) ∈ rfL X X.rf.length ↔ ∃ i : Nat, i < X.evs.length ∧ (X.evs.getD i ev0).kd = 1 ∧ x = X.rf.getD i 0 ∧ y = i := by
  have hl := h.rfl
  unfold rfL
  simp only [List.mem_flatMap, List.mem_range]
  constructor
  · rintro ⟨i, hi, hh⟩
    by_cases h0 : 0 ≤ X.rf.getD i 0
    · rw [if_pos h0, List.mem_singleton, Prod.mk.injEq] at hh
      exact ⟨i, by omega, (h.rfr i (by omega)).1.1 h0, hh.1, hh.2⟩
    · rw [if_neg h0] at hh; cases hh
  · rintro ⟨i, hi, hk, rfl, rfl⟩
    exact ⟨i, by omega, by rw [if_pos ((h.rfr i hi).1.2 hk)]; exact List.mem_singleton.2 rfl⟩
theorem mem_rfE {x y : Int} : (x, y) ∈ pairsE rfS X X.evs.length ↔ ∃ i : Nat, i < X.evs.length ∧ (X.evs.getD i ev0).kd = 1 ∧ x = X.rf.getD i 0 ∧ y = i := by
  have hl := h.rfl
  unfold pairsE rfS
  simp only [List.mem_flatMap, List.mem_range]
  constructor
  · rintro ⟨i, hi, hh⟩
    by_cases hk : (X.evs.getD i ev0).kd = 1
    · rw [if_pos hk, List.mem_singleton, Prod.mk.injEq] at hh
      rw [wOf, if_pos (by omega)] at hh
      exact ⟨i, hi, hk, hh.1, hh.2⟩
    · rw [if_neg hk] at hh; cases hh
  · rintro ⟨i, hi, hk, rfl, rfl⟩
    refine ⟨i, hi, ?_⟩
    rw [if_pos hk, wOf, if_pos (by omega)]; exact List.mem_singleton.2 rfl
theorem mem_coE {x y : Int} : (x, y) ∈ pairsE (coS X.co) X X.evs.length ↔ (x, y) ∈ coX X X.co.length := by
  rw [mem_coX]
  unfold pairsE coS
  simp only [List.mem_flatMap, List.mem_range]
  constructor
  · rintro ⟨i, hi, hh⟩
    by_cases hk : (X.evs.getD i ev0).kd = 2
    · rw [if_pos hk] at hh
      obtain ⟨rfl, j, a, m, h1, h2, h3, h4, h5⟩ := mem_beh.1 hh
      exact ⟨j, a, m, h1, h2, h3, h4, h5⟩
    · rw [if_neg hk] at hh; cases hh
  · rintro ⟨j, a, m, h1, h2, h3, h4, h5⟩
    obtain ⟨g1, g2, g3⟩ := h.cor j h1 a (by omega)
    rw [h4] at g1 g2 g3
    refine ⟨x.toNat, by omega, ?_⟩
    rw [if_pos g3]
    exact mem_beh.2 ⟨by omega, j, a, m, h1, h2, h3, by omega, h5⟩
theorem mem_frE {x y : Int} : (x, y) ∈ pairsE (frS X.co) X X.evs.length ↔ ∃ w, (w, x) ∈ rfL X X.rf.length ∧ (w, y) ∈ coX X X.co.length := by
  have hl := h.rfl
  unfold pairsE frS
  simp only [List.mem_flatMap, List.mem_range, mem_rfL h]
  constructor
  · rintro ⟨i, hi, hh⟩
    by_cases hk : (X.evs.getD i ev0).kd = 1
    · rw [if_pos hk] at hh
      obtain ⟨rfl, j, a, m, h1, h2, h3, h4, h5⟩ := mem_beh.1 hh
      rw [wOf, if_pos (by omega)] at h4
      exact ⟨X.rf.getD i 0, ⟨i, hi, hk, rfl, rfl⟩, mem_coX.2 ⟨j, a, m, h1, h2, h3, h4, h5⟩⟩
    · rw [if_neg hk] at hh; cases hh
  · rintro ⟨w, ⟨i, hi, hk, rfl, rfl⟩, hc⟩
    obtain ⟨j, a, m, h1, h2, h3, h4, h5⟩ := mem_coX.1 hc
    refine ⟨i, hi, ?_⟩
    rw [if_pos hk, wOf, if_pos (by omega)]
    exact mem_beh.2 ⟨rfl, j, a, m, h1, h2, h3, h4, h5⟩
theorem rf_get {a b : Nat} (ha : a < X.evs.length) (hb' : b < X.evs.length) : anyM (rfL X X.rf.length) a b = hb (relE rfS X) a b := by
  unfold relE; rw [h.nOf]
  exact sameL h.n40 (fun a b _ _ => by rw [mem_rfL h, mem_rfE h]) ha hb'
theorem co_get {a b : Nat} (ha : a < X.evs.length) (hb' : b < X.evs.length) : anyM (coX X X.co.length) a b = hb (relE (coS X.co) X) a b := by
  unfold relE; rw [h.nOf]
  exact sameL h.n40 (fun a b _ _ => (mem_coE h).symm) ha hb'
theorem fr_get {a b : Nat} (ha : a < X.evs.length) (hb' : b < X.evs.length) : frM X.evs.length (anyM (rfL X X.rf.length)) (anyM (coX X X.co.length)) a b = hb (relE (frS X.co) X) a b := by
  unfold relE; rw [h.nOf, hb_newM h.n40 _ ha hb', Bool.eq_iff_iff, anyM_mem, mem_frE h]
  unfold frM
  rw [thM_get _ _ _ _ _ _ hb', decide_eq_true ha, Bool.true_and, List.any_eq_true]
  constructor
  · rintro ⟨c, hc, hh⟩
    rw [mback_get _ _ _ _ ha (List.mem_range.1 hc), Bool.and_eq_true, anyM_mem, anyM_mem] at hh
    exact ⟨c, hh.1, hh.2⟩
  · rintro ⟨w, h1, h2⟩
    obtain ⟨i, hi, hk, e1, e2⟩ := (mem_rfL h).1 h1
    have h3 := (h.rfr i hi).1.2 hk
    have h4 := (h.rfr i hi).2
    have hw : ((w.toNat : Nat) : Int) = w := by omega
    refine ⟨w.toNat, List.mem_range.2 (by omega), ?_⟩
    rw [mback_get _ _ _ _ ha (by omega), Bool.and_eq_true, anyM_mem, anyM_mem, hw]
    exact ⟨h1, h2⟩
end
end Go.Ab
end
section
set_option linter.unusedVariables false
set_option linter.unusedSimpArgs false
namespace Go.Ab
variable {F : Funs}
theorem opM_out (φ : Bool → Bool → Bool) (A B : Mx) (N a b : Nat) (h : ¬ (a < N ∧ b < N)) : opM φ A B N a b = false := by
  unfold opM stM; rw [if_neg (by omega)]
theorem partR_get {X : Gr} {so : Ev → Ev → Bool} {n : Nat} {R : Rw} (hN : nOf X = X.evs.length) (hR : Wf n R) (hn : n = X.evs.length) {a b : Nat} (ha : a < X.evs.length) (hb' : b < X.evs.length) : hb (partR so X n R) a b = (hb R a b && so (X.evs.getD a ev0) (X.evs.getD b ev0)) := by
  have h40 := nOf_le X
  unfold partR
  rw [hN] at h40 ⊢
  rw [hb_newM h40 _ ha hb', Bool.eq_iff_iff, anyM_mem, List.mem_filter, Bool.and_eq_true]
  have hok : okP so X ((a : Int), (b : Int)) = so (X.evs.getD a ev0) (X.evs.getD b ev0) := by
    unfold okP
    have h1 : ((a : Nat) : Int) < X.evs.length := by omega
    have h2 : ((b : Nat) : Int) < X.evs.length := by omega
    simp only [h1, h2, decide_true, Bool.true_and, Int.toNat_natCast]
  rw [hok]
  constructor
  · rintro ⟨hp, hs⟩
    obtain ⟨x, y, he, hh⟩ := mem_pairsR.1 hp
    injection he with e1 e2
    have e1 : a = x := by omega
    have e2 : b = y := by omega
    subst e1 e2
    rw [hN_wf hR] at hh
    exact ⟨hh, hs⟩
  · rintro ⟨hh, hs⟩
    exact ⟨mem_pairsR.2 ⟨a, b, rfl, by rw [hN_wf hR]; exact hh⟩, hs⟩
section
variable {X : Gr} (h : GraphOk X)
include h
theorem wf_E (stp) : Wf X.evs.length (relE stp X) := by unfold relE; rw [h.nOf]; exact wf_new h.n40 _
theorem eco_get {a b : Nat} (ha : a < X.evs.length) (hb' : b < X.evs.length) : plM X.evs.length (comM X.evs.length (anyM (rfL X X.rf.length)) (anyM (coX X X.co.length))) X.evs.length a b = hb (ecoR X) a b := by
  have w : Wf X.evs.length (orR (orR (relE rfS X) (relE (coS X.co) X)) (relE (frS X.co) X)) := wf_or (wf_or (wf_E h _) (wf_E h _)) (wf_E h _)
  have e : Eqv (comM X.evs.length (anyM (rfL X X.rf.length)) (anyM (coX X X.co.length))) (orR (orR (relE rfS X) (relE (coS X.co) X)) (relE (frS X.co) X)) := by
    intro a b
    by_cases hab : a < X.evs.length ∧ b < X.evs.length
    · unfold comM
      rw [opM_get _ _ _ _ _ _ hab.1 hab.2, opM_get _ _ _ _ _ _ hab.1 hab.2, hb_or, hb_or, rf_get h hab.1 hab.2, co_get h hab.1 hab.2, fr_get h hab.1 hab.2]
    · unfold comM
      rw [opM_out _ _ _ _ _ _ hab]
      symm
      rw [Bool.eq_false_iff]
      intro hh
      exact hab (w a b hh)
  unfold ecoR
  rw [h.nOf]
  exact plM_get e w _ (Nat.le_refl _) a b ha hb'
theorem th_ge (i : Nat) (hi : i < X.evs.length) : (((i : Int) < X.locs) → thI X i = 0) ∧ (¬ ((i : Int) < X.locs) → 1 ≤ thI X i) := by
  obtain ⟨h1, h2⟩ := h.ev i hi
  exact ⟨fun hl => (h1 hl).1, fun hl => (h2 hl).1⟩
theorem po_get {a b : Nat} (ha : a < X.evs.length) (hb' : b < X.evs.length) : mpoM X a b = hb (poR X) a b := by
  unfold poR; rw [h.nOf, hb_newM h.n40 _ ha hb', Bool.eq_iff_iff, anyM_mem]
  have ga := th_ge h a ha
  have gb := th_ge h b hb'
  have hmem : ((a : Int), (b : Int)) ∈ poK X X.evs.length ↔ poB a b (X.evs.getD a ev0) (X.evs.getD b ev0) = true := by
    simp only [poK, poRow, List.mem_flatMap, List.mem_map, List.mem_filter, List.mem_range]
    constructor
    · rintro ⟨x, hx, y, ⟨hy, hp⟩, he⟩
      injection he with e1 e2
      have e1 : x = a := by omega
      have e2 : y = b := by omega
      subst e1 e2
      exact hp
    · intro hp; exact ⟨a, ha, b, ⟨hb', hp⟩, rfl⟩
  rw [hmem]
  unfold mpoM stU poV poB
  unfold thI at *
  generalize (X.evs.getD a ev0).th = ta at *
  generalize (X.evs.getD b ev0).th = tb at *
  by_cases hab : a < b
  · rw [if_pos (.inl ⟨ha, hab, hb'⟩)]
    simp only [Bool.or_eq_true, Bool.and_eq_true, beq_iff_eq, decide_eq_true_eq, bne_iff_ne, ne_eq]
    by_cases l1 : (a : Int) < X.locs <;> by_cases l2 : (b : Int) < X.locs
    · have := ga.1 l1; have := gb.1 l2; omega
    · have := ga.1 l1; have := gb.2 l2; omega
    · omega
    · have := ga.2 l1; have := gb.2 l2; omega
  · rw [if_neg (by omega)]
    simp only [Bool.or_eq_true, Bool.and_eq_true, beq_iff_eq, decide_eq_true_eq, bne_iff_ne, ne_eq]
    by_cases l1 : (a : Int) < X.locs <;> by_cases l2 : (b : Int) < X.locs
    · have := ga.1 l1; have := gb.1 l2; simp; omega
    · omega
    · have := ga.2 l1; have := gb.1 l2; simp; omega
    · have := ga.2 l1; have := gb.2 l2; simp; omega
theorem wf_po : Wf X.evs.length (poR X) := by unfold poR; rw [h.nOf]; exact wf_new h.n40 _
theorem loc_get {a b : Nat} (ha : a < X.evs.length) (hb' : b < X.evs.length) : locM X a b = hb (partR locP X X.evs.length (poR X)) a b := by
  rw [partR_get h.nOf (wf_po h) rfl ha hb', ← po_get h ha hb']
  unfold locM stK
  rw [if_pos (.inl ⟨ha, hb'⟩)]
  congr 1
  unfold locV locP
  rw [Bool.and_assoc]
end
end Go.Ab
end
section
set_option linter.unusedVariables false
set_option linter.unusedSimpArgs false
namespace Go.Ab
variable {F : Funs}
def setL (X : Gr) (p : Ev → Bool) (k : Nat) : List (Int × Int) := (List.range k).flatMap fun (i : Nat) => if p (X.evs.getD i ev0) then [((i : Int), (i : Int))] else []
theorem setL_succ (X p k) : setL X p (k + 1) = setL X p k ++ (if p (X.evs.getD k ev0) then [((k : Int), (k : Int))] else []) := by simp [setL, List.range_succ]
theorem setL_len (X p k) : (setL X p k).length ≤ k := by
  induction k with
  | zero => simp [setL]
  | succ k ih => rw [setL_succ, List.length_append]; split <;> simp <;> omega
theorem mem_setL {X : Gr} {p : Ev → Bool} {k a b : Nat} : ((a : Int), (b : Int)) ∈ setL X p k ↔ a = b ∧ a < k ∧ p (X.evs.getD a ev0) = true := by
  unfold setL
  simp only [List.mem_flatMap, List.mem_range]
  constructor
  · rintro ⟨i, hi, h⟩
    by_cases hp : p (X.evs.getD i ev0) = true
    · rw [if_pos hp, List.mem_singleton, Prod.mk.injEq] at h
      have e1 : a = i := by omega
      have e2 : b = i := by omega
      subst e1 e2
      exact ⟨rfl, hi, hp⟩
    · rw [if_neg hp] at h; cases h
  · rintro ⟨rfl, hk, hp⟩
    exact ⟨a, hk, by rw [if_pos hp]; exact List.mem_singleton.2 rfl⟩
def setR (X : Gr) (p : Ev → Bool) : Rw := newR (nOf X) (setL X p X.evs.length)
def kindK (X : Gr) (q : Ev → Bool) (k : Nat) : Mx := fun a b => decide (a = b) && (decide (a < k) && q (X.evs.getD a ev0))
theorem kindK_succ (X q k) : upd2 (kindK X q k) k k (q (X.evs.getD k ev0)) = kindK X q (k + 1) := by
  funext i j
  unfold upd2 kindK
  by_cases h : i = k ∧ j = k
  · obtain ⟨rfl, rfl⟩ := h
    rw [if_pos ⟨rfl, rfl⟩]; simp
  · rw [if_neg h]
    by_cases hij : i = j
    · have : decide (i < k) = decide (i < k + 1) := by rw [decide_eq_decide]; omega
      rw [this]
    · rw [decide_eq_false hij]; rfl
theorem kindK_0 (X q) : kindK X q 0 = fun _ _ => false := by funext i j; simp [kindK]
section
variable {X : Gr} (h : GraphOk X)
include h
theorem EqN.set {p q : Ev → Bool} (hq : ∀ i, i < X.evs.length → p (X.evs.getD i ev0) = q (X.evs.getD i ev0)) : EqN X.evs.length (kindK X q X.evs.length) (setR X p) := by
  unfold setR
  rw [h.nOf]
  refine ⟨wf_new h.n40 _, fun a b ha hb' => ?_⟩
  rw [hb_newM h.n40 _ ha hb', Bool.eq_iff_iff, anyM_mem, mem_setL]
  unfold kindK
  simp only [Bool.and_eq_true, decide_eq_true_eq, hq a ha]
theorem ev_kinds (i : Nat) (hi : i < X.evs.length) : ((X.evs.getD i ev0).kd = 1 ∧ ((X.evs.getD i ev0).md = 0 ∨ (X.evs.getD i ev0).md = 1)) ∨ ((X.evs.getD i ev0).kd = 2 ∧ ((X.evs.getD i ev0).md = 0 ∨ (X.evs.getD i ev0).md = 2)) ∨ ((X.evs.getD i ev0).kd = 3 ∧ 1 ≤ (X.evs.getD i ev0).md ∧ (X.evs.getD i ev0).md ≤ 4) := by
  obtain ⟨h1, h2⟩ := h.ev i hi
  by_cases hl : (i : Int) < X.locs
  · obtain ⟨_, h3, h4, _⟩ := h1 hl
    exact .inr (.inl ⟨h3, .inl h4⟩)
  · obtain ⟨_, _, _, h3⟩ := h2 hl
    rcases h3 with ⟨h4, _, _, h5⟩ | ⟨h4, _, _, h5⟩ | ⟨h4, h5, h6, _⟩
    · exact .inl ⟨h4, h5⟩
    · exact .inr (.inl ⟨h4, h5⟩)
    · exact .inr (.inr ⟨h4, h5, h6⟩)
theorem eq_rf : EqN X.evs.length (anyM (rfL X X.rf.length)) (relE rfS X) := ⟨wf_E h _, fun _ _ ha hb' => rf_get h ha hb'⟩
theorem eq_co : EqN X.evs.length (anyM (coX X X.co.length)) (relE (coS X.co) X) := ⟨wf_E h _, fun _ _ ha hb' => co_get h ha hb'⟩
theorem eq_fr : EqN X.evs.length (frM X.evs.length (anyM (rfL X X.rf.length)) (anyM (coX X X.co.length))) (relE (frS X.co) X) := ⟨wf_E h _, fun _ _ ha hb' => fr_get h ha hb'⟩
theorem eq_po : EqN X.evs.length (mpoM X) (poR X) := ⟨wf_po h, fun _ _ ha hb' => po_get h ha hb'⟩
theorem eq_eco : EqN X.evs.length (plM X.evs.length (comM X.evs.length (anyM (rfL X X.rf.length)) (anyM (coX X X.co.length))) X.evs.length) (ecoR X) :=
  ⟨by unfold ecoR; rw [h.nOf]; exact wf_plus (wf_or (wf_or (wf_E h _) (wf_E h _)) (wf_E h _)), fun _ _ ha hb' => eco_get h ha hb'⟩
theorem wf_part (so : Ev → Ev → Bool) (n : Nat) (R : Rw) : Wf X.evs.length (partR so X n R) := by unfold partR; rw [h.nOf]; exact wf_new h.n40 _
theorem eq_loc : EqN X.evs.length (locM X) (partR locP X X.evs.length (poR X)) := ⟨wf_part h _ _ _, fun _ _ ha hb' => loc_get h ha hb'⟩
theorem eq_inner {A : Mx} {R : Rw} (k : EqN X.evs.length A R) : EqN X.evs.length (prtM X true A) (partR inner X X.evs.length R) :=
  ⟨wf_part h _ _ _, fun a b ha hb' => by
    rw [partR_get h.nOf k.1 rfl ha hb']
    unfold prtM
    rw [opM_get _ _ _ _ _ _ ha hb', k.2 a b ha hb']
    unfold thV thI inner
    cases ((X.evs.getD a ev0).th == (X.evs.getD b ev0).th) <;> rfl⟩
theorem eq_outer {A : Mx} {R : Rw} (k : EqN X.evs.length A R) : EqN X.evs.length (prtM X false A) (partR outer X X.evs.length R) :=
  ⟨wf_part h _ _ _, fun a b ha hb' => by
    rw [partR_get h.nOf k.1 rfl ha hb']
    unfold prtM
    rw [opM_get _ _ _ _ _ _ ha hb', k.2 a b ha hb']
    unfold thV thI outer bne
    cases ((X.evs.getD a ev0).th == (X.evs.getD b ev0).th) <;> rfl⟩
end
end Go.Ab
end
section
set_option linter.unusedVariables false
set_option linter.unusedSimpArgs false
namespace Go.Ab
variable {F : Funs}
theorem o_boxI {c : CS} {al : Nat → Bool} {lo id : Nat} {e : Env} {g : G} (x) : opE c al lo id (.boxI x) e g = vBoxI (x.ev e) g := rfl
noncomputable def bxiD (x : Bool) (cs : Option (List AV)) (g : G) : Option (AV × G) := if x then vMapL .ptr g cs else none
theorem vBoxI_S (v g) : vBoxI v g = bxiD ((cellsOf v).all one) (frzL (fun _ => none) depth (cellsOf v)) g := rfl
theorem bxiD_ok (cs g) : bxiD true cs g = vMapL .ptr g cs := rfl
theorem frzL_gr (hp) (X : Gr) : frzL hp depth (grC X) = some (grC X) := by
  show frzL hp (8 + 1) _ = _
  simp only [grC, frzL, frz]
set_option maxRecDepth 100000 in
set_option maxHeartbeats 4000000 in
theorem sp_setE (h166 : F 166 = some A_graph_Set) (h81 : F 81 = some A_graph_Of) (pr : Pk_rel F) {X : Gr} (hX : X.evs.length ≤ 1000) {fid : Nat} {caps : List AV} {p : Ev → Bool} (hp : ∀ e, pureS F fid (.agg (evC e) :: caps) = some (.b (p e)))
    (hc : ∀ hp, frzL hp depth caps = some caps) (hv : ∀ hp, caps.flatMap (vis hp depth) = []) : pureS F 166 [.agg (grC X), .fn fid [] caps] = some (.ptr (relC (nOf X) (setR X p))) := by
  refine pure_of h166 ?_
  simp (disch := omega) only [A_graph_Set, wp, Nat.reduceAdd, Nat.reduceMul, Nat.reduceSub, gl]
  refine W_loop (fun q e g => ∃ k t, q = X.evs.length - k ∧ k ≤ X.evs.length ∧ e 2 = .mp 0 0 ∧ e 5 = .sl (pairsC (setL X p k)) (setL X p k).length t ∧ e 6 = .mp 5 0 ∧ e 12 = .sl (evsC X.evs) X.evs.length .non ∧ e 13 = .i .i64 X.evs.length ∧ e 14 = .i .i64 k ∧ Live g 2 t ∧ g.hp 0 = some (.cells (grC X) false) ∧ g.hp 5 = some (.cells [.fn fid [] caps] false) ∧ 5 < g.nx) X.evs.length ?_ ?_
  · refine ⟨0, .rig, rfl, Nat.zero_le _, ?_⟩
    simp (disch := omega) only [wp, Nat.reduceAdd, Nat.reduceMul, Nat.reduceSub]
    exact ⟨by rfl, rfl, .inl rfl, by first | omega | (dsimp only; omega)⟩
  · rintro q e g ⟨k, t, rfl, hk, e2, e5, e6, e12, e13, e14, L, hg, hf, hnx⟩
    by_cases hk' : k < X.evs.length
    · have hk1 : (k : Int) < X.evs.length := by omega
      have hwk := succ_wrap (k := k) (by omega)
      have hev := ev_part hk'
      have hs := setL_succ X p k
      have hl := setL_len X p k
      generalize X.evs.getD k ev0 = ev at hev hs
      have hpe := hp ev
      generalize setL X p k = B at e5 hs hl
      cases hb : p ev with
      | true =>
        rw [hb] at hpe
        rw [hb, if_pos rfl] at hs
        rcases L with rfl | ⟨τ, rfl, hτ, hlt⟩
        · simp (disch := omega) only [wp, Nat.reduceAdd, Nat.reduceMul, Nat.reduceSub, gl, e2, e5, e6, e12, e13, e14, hg, hf, hk1, hev, hc, hv, hpe, pairsC_len, hwk]
          refine ⟨X.evs.length - (k + 1), by omega, k + 1, ?_⟩
          rw [hs, pairsC_app, pairsC_one, List.length_append]
          exact ⟨_, rfl, by omega, rfl, rfl, .inr ⟨_, rfl, upd_same _ _ _, by first | omega | (dsimp only; omega)⟩, by first | omega | (dsimp only; omega)⟩
        · have n0 : τ ≠ 0 := fun h => by rw [h, hg] at hτ; cases hτ
          have n5 : τ ≠ 5 := fun h => by rw [h, hf] at hτ; cases hτ
          simp (disch := omega) only [wp, Nat.reduceAdd, Nat.reduceMul, Nat.reduceSub, gl, e2, e5, e6, e12, e13, e14, hg, hf, hk1, hev, hc, hv, hpe, pairsC_len, hwk, hτ]
          refine ⟨X.evs.length - (k + 1), by omega, k + 1, ?_⟩
          rw [hs, pairsC_app, pairsC_one, List.length_append]
          exact ⟨_, rfl, by omega, rfl, rfl, .inr ⟨_, rfl, upd_same _ _ _, by first | omega | (dsimp only; omega)⟩, by first | omega | (dsimp only; omega)⟩
      | false =>
        rw [hb] at hpe
        rw [hb, if_neg (by simp), List.append_nil] at hs
        simp (disch := omega) only [wp, Nat.reduceAdd, Nat.reduceMul, Nat.reduceSub, gl, e2, e5, e6, e12, e13, e14, hg, hf, hk1, hev, hc, hv, hpe, hwk]
        refine ⟨X.evs.length - (k + 1), by omega, k + 1, t, rfl, by omega, by rw [hs], rfl, ?_, by first | omega | (dsimp only; omega)⟩
        rcases L with rfl | ⟨τ, rfl, hτ, hlt⟩
        · exact .inl rfl
        · exact .inr ⟨τ, rfl, by simp (disch := omega) only [upd_ne]; exact hτ, by first | omega | (dsimp only; omega)⟩
    · obtain rfl : k = X.evs.length := by omega
      have hk1 : ¬ ((X.evs.length : Int) < X.evs.length) := by omega
      have hl := setL_len X p X.evs.length
      have hof := sp_of h81 pr X (setL X p X.evs.length) .non (by omega)
      simp (disch := omega) only [wp, Nat.reduceAdd, Nat.reduceMul, Nat.reduceSub, gl, e2, e5, e6, e12, e13, e14, hg, hf, hk1, hof]
      rfl
def setP (k : Int) (ms : List Int) (e : Ev) : Bool := e.kd == k && (decide (ms = []) || ms.any fun m => e.md == m)
set_option maxRecDepth 100000 in
set_option maxHeartbeats 4000000 in
theorem sp_set1 (h229 : F 229 = some A_sync_set_1) (k : Int) (ms : List Int) (hm : ms.length ≤ 1000) (ev : Ev) : pureS F 229 [.agg (evC ev), .ptr [.sl (intsC ms) ms.length .non], .ptr [.i .i64 k]] = some (.b (setP k ms ev)) := by
  refine pure_of h229 ?_
  have h0 : ((ms.length : Int) == 0) = decide (ms = []) := by
    cases ms with
    | nil => rfl
    | cons a l => simp; omega
  simp (disch := omega) only [A_sync_set_1, wp, Nat.reduceAdd, Nat.reduceMul, Nat.reduceSub, gl, h0]
  refine W_loop (fun q e g => ∃ j, q = ms.length - j ∧ j ≤ ms.length ∧ e 2 = .ptr [.i .i64 k] ∧ e 3 = .mp 0 0 ∧ e 5 = .b (decide (ms = []) || (ms.take j).any fun m => ev.md == m) ∧ e 11 = .sl (intsC ms) ms.length .non ∧ e 12 = .i .i64 ms.length ∧ e 13 = .i .i64 j ∧ g.hp 0 = some (.cells (evC ev) false) ∧ 0 < g.nx) ms.length ?_ ?_
  · refine ⟨0, rfl, Nat.zero_le _, ?_⟩
    simp (disch := omega) only [wp, Nat.reduceAdd, Nat.reduceMul, Nat.reduceSub]
    exact ⟨by simp, rfl, by first | omega | (dsimp only; omega)⟩
  · rintro q e g ⟨j, rfl, hj, e2, e3, e5, e11, e12, e13, hg, hnx⟩
    by_cases hj' : j < ms.length
    · have hj1 : (j : Int) < ms.length := by omega
      have hwj := succ_wrap (k := j) (by omega)
      have hip := ints_part hj'
      have hs : (ms.take (j + 1)).any (fun m => ev.md == m) = ((ms.take j).any (fun m => ev.md == m) || ev.md == ms.getD j 0) := by
        rw [List.take_add_one, List.getElem?_eq_getElem hj', List.any_append, List.getD_eq_getElem?_getD, List.getElem?_eq_getElem hj']
        simp
      generalize ms.getD j 0 = m at hip hs
      cases hb : (decide (ms = []) || (ms.take j).any fun m => ev.md == m) with
      | true =>
        rw [hb] at e5
        simp (disch := omega) only [wp, Nat.reduceAdd, Nat.reduceMul, Nat.reduceSub, gl, e2, e3, e5, e11, e12, e13, hg, hj1, hip, hwj]
        exact ⟨ms.length - (j + 1), by omega, j + 1, rfl, by omega, by rw [hs, ← Bool.or_assoc, hb]; rfl, rfl, by first | omega | (dsimp only; omega)⟩
      | false =>
        rw [hb] at e5
        simp (disch := omega) only [wp, Nat.reduceAdd, Nat.reduceMul, Nat.reduceSub, gl, e2, e3, e5, e11, e12, e13, hg, hj1, hip, hwj]
        exact ⟨ms.length - (j + 1), by omega, j + 1, rfl, by omega, by rw [hs, ← Bool.or_assoc, hb]; rfl, rfl, by first | omega | (dsimp only; omega)⟩
    · obtain rfl : j = ms.length := by omega
      have hj1 : ¬ ((ms.length : Int) < ms.length) := by omega
      rw [List.take_length] at e5
      unfold setP
      cases hk : (ev.kd == k) with
      | true => simp (disch := omega) only [wp, Nat.reduceAdd, Nat.reduceMul, Nat.reduceSub, gl, e2, e3, e5, e11, e12, e13, hg, hj1, hk]
      | false => simp (disch := omega) only [wp, Nat.reduceAdd, Nat.reduceMul, Nat.reduceSub, gl, e2, e3, e5, e11, e12, e13, hg, hj1, hk]
set_option maxRecDepth 100000 in
theorem sp_setS (h178 : F 178 = some A_sync_set) (h229 : F 229 = some A_sync_set_1) (h166 : F 166 = some A_graph_Set) (h81 : F 81 = some A_graph_Of) (pr : Pk_rel F) {X : Gr} (hX : X.evs.length ≤ 1000) (k : Int) (ms : List Int) (hm : ms.length ≤ 1000) (t : Tok) : pureS F 178 [.agg (grC X), .i .i64 k, .sl (intsC ms) ms.length t] = some (.ptr (relC (nOf X) (setR X (setP k ms)))) := by
  refine pure_of h178 ?_
  have hc : ∀ hp, frzL hp depth [.ptr [.sl (intsC ms) ms.length .non], .ptr [.i .i64 k]] = some [.ptr [.sl (intsC ms) ms.length .non], .ptr [.i .i64 k]] := fun hp => by simp only [frzL_cons, frzL_nil, frz_d_ptr, consO_ok]
  have hv : ∀ hp, [AV.ptr [.sl (intsC ms) ms.length .non], .ptr [.i .i64 k]].flatMap (vis hp depth) = [] := fun hp => by simp only [List.flatMap_cons, List.flatMap_nil, vis_ptr, List.append_nil]
  have hset := sp_setE h166 h81 pr hX (fid := 229) (p := setP k ms) (fun e => sp_set1 h229 k ms hm e) hc hv
  have hfn : ∀ hp, frz hp depth (.fn 229 [] [.ptr [.sl (intsC ms) ms.length .non], .ptr [.i .i64 k]]) = some (.fn 229 [] [.ptr [.sl (intsC ms) ms.length .non], .ptr [.i .i64 k]]) := fun hp => by
    show frz hp (8 + 1) _ = _
    simp only [frz, frzL]
  have hvn : ∀ hp, vis hp depth (.fn 229 [] [.ptr [.sl (intsC ms) ms.length .non], .ptr [.i .i64 k]]) = [] := fun hp => by
    show vis hp (8 + 1) _ = _
    simp only [vis, List.flatMap_cons, List.flatMap_nil, List.append_nil]
  simp (disch := omega) only [A_sync_set, wp, Nat.reduceAdd, Nat.reduceMul, Nat.reduceSub, gl, o_boxI, vBoxI_S, bxiD_ok, frzL_gr, vMapL_some, hfn, hvn, hset]
def relsC (n : Nat) (l : List Rw) : List AV := l.map fun R => .ptr (relC n R)
def thenL (n : Nat) (R : Rw) (l : List Rw) : Rw := l.foldl (fun R S => thenR n R S) R
theorem rels_part {n : Nat} {l : List Rw} {k : Nat} (h : k < l.length) : part ((relsC n l).drop (k * 1)) 0 none = some (.ptr (relC n (l.getD k fun _ => 0))) := by
  simp only [part, relsC, List.getElem?_drop, Nat.mul_one, Nat.add_zero, List.getElem?_map, List.getElem?_eq_getElem h, Option.map_some, List.getD_eq_getElem?_getD, Option.getD_some]
set_option maxRecDepth 100000 in
set_option maxHeartbeats 4000000 in
theorem sp_thenS (h177 : F 177 = some A_sync_then) (pr : Pk_rel F) {n : Nat} (hn : n ≤ 40) (R : Rw) (l : List Rw) (hl : l.length ≤ 1000) (t : Tok) : pureS F 177 [.ptr (relC n R), .sl (relsC n l) l.length t] = some (.ptr (relC n (thenL n R l))) := by
  refine pure_of h177 ?_
  simp (disch := omega) only [A_sync_then, wp, Nat.reduceAdd, Nat.reduceMul, Nat.reduceSub, gl]
  refine W_loop (fun q e g => ∃ k, q = l.length - k ∧ k ≤ l.length ∧ e 0 = .ptr (relC n (thenL n R (l.take k))) ∧ e 7 = .sl (relsC n l) l.length t ∧ e 8 = .i .i64 l.length ∧ e 9 = .i .i64 k) l.length ?_ ?_
  · refine ⟨0, rfl, Nat.zero_le _, ?_⟩
    simp (disch := omega) only [wp, Nat.reduceAdd, Nat.reduceMul, Nat.reduceSub]
    exact ⟨by rfl, rfl⟩
  · rintro q e g ⟨k, rfl, hk, e0, e7, e8, e9⟩
    by_cases hk' : k < l.length
    · have hk1 : (k : Int) < l.length := by omega
      have hwk := succ_wrap (k := k) (by omega)
      have hp := rels_part (n := n) hk'
      have hs : thenL n R (l.take (k + 1)) = thenR n (thenL n R (l.take k)) (l.getD k fun _ => 0) := by
        unfold thenL
        rw [List.take_add_one, List.foldl_append, List.getElem?_eq_getElem hk', List.getD_eq_getElem?_getD, List.getElem?_eq_getElem hk']
        rfl
      generalize thenL n R (l.take k) = A at e0 hs
      generalize (l.getD k fun _ => 0) = B at hp hs
      simp (disch := omega) only [wp, Nat.reduceAdd, Nat.reduceMul, Nat.reduceSub, gl, e0, e7, e8, e9, hk1, hp, sp_then pr hn hn, Nat.max_self, hwk]
      exact ⟨l.length - (k + 1), by omega, k + 1, rfl, by omega, by rw [hs], rfl⟩
    · obtain rfl : k = l.length := by omega
      have hk1 : ¬ ((l.length : Int) < l.length) := by omega
      rw [List.take_length] at e0
      simp (disch := omega) only [wp, Nat.reduceAdd, Nat.reduceMul, Nat.reduceSub, gl, e0, e7, e8, e9, hk1]
end Go.Ab
end
section
set_option linter.unusedVariables false
set_option linter.unusedSimpArgs false
namespace Go.Ab
variable {F : Funs}
theorem sp_then1 (h177 : F 177 = some A_sync_then) (pr : Pk_rel F) {n : Nat} (hn : n ≤ 40) (R S : Rw) : pureS F 177 [.ptr (relC n R), .sl [.ptr (relC n S)] 1 .non] = some (.ptr (relC n (thenR n R S))) := sp_thenS h177 pr hn R [S] (by simp) .non
theorem sp_then2 (h177 : F 177 = some A_sync_then) (pr : Pk_rel F) {n : Nat} (hn : n ≤ 40) (R S T : Rw) : pureS F 177 [.ptr (relC n R), .sl [.ptr (relC n S), .ptr (relC n T)] 2 .non] = some (.ptr (relC n (thenR n (thenR n R S) T))) := sp_thenS h177 pr hn R [S, T] (by simp) .non
section
variable (X : Gr)
def locR : Rw := partR locP X (nOf X) (poR X)
def rfR : Rw := relE rfS X
def RsP : Rw := orR (thenR (nOf X) (thenR (nOf X) (setR X (setP 2 [])) (locR X)) (setR X (setP 2 []))) (thenR (nOf X) (setR X (setP 2 [])) (maybeK (nOf X) (plusR (nOf X) (thenR (nOf X) (thenR (nOf X) (maybeK (nOf X) (locR X)) (rfR X)) (newR (nOf X) X.rmw)))))
def ReleaseP : Rw := thenR (nOf X) (orR (setR X (setP 2 [2])) (thenR (nOf X) (setR X (setP 3 [2, 3, 4])) (poR X))) (RsP X)
def SwP : Rw := thenR (nOf X) (thenR (nOf X) (ReleaseP X) (orR (partR inner X (nOf X) (rfR X)) (thenR (nOf X) (maybeK (nOf X) (locR X)) (partR outer X (nOf X) (rfR X))))) (orR (setR X (setP 1 [1])) (thenR (nOf X) (poR X) (setR X (setP 3 [1, 3, 4]))))
def HbP : Rw := plusR (nOf X) (orR (poR X) (SwP X))
end
structure SyncF (F : Funs) : Prop where
  ps : Pk_sync F
  pe : Pk_eco F
  pr : Pk_rel F
  po : F 60 = some A_graph_Po
  gof : F 81 = some A_graph_Of
  set : F 166 = some A_graph_Set
section
variable (S : SyncF F) {X : Gr} (hX : Few X)
include S hX
theorem sp_setX (k : Int) (ms : List Int) (hm : ms.length ≤ 1000) (t : Tok) : pureS F 178 [.agg (grC X), .i .i64 k, .sl (intsC ms) ms.length t] = some (.ptr (relC (nOf X) (setR X (setP k ms)))) :=
  sp_setS S.ps.sync_set S.ps.sync_set_1 S.set S.gof S.pr (by have := hX.1; omega) k ms hm t
theorem sp_set0 (k : Int) : pureS F 178 [.agg (grC X), .i .i64 k, .sl [] 0 .non] = some (.ptr (relC (nOf X) (setR X (setP k [])))) := sp_setX S hX k [] (by simp) .non
theorem sp_setA (k a : Int) : pureS F 178 [.agg (grC X), .i .i64 k, .sl [.i .i64 a] 1 .non] = some (.ptr (relC (nOf X) (setR X (setP k [a])))) := sp_setX S hX k [a] (by simp) .non
theorem sp_setB (k a b c : Int) : pureS F 178 [.agg (grC X), .i .i64 k, .sl [.i .i64 a, .i .i64 b, .i .i64 c] 3 .non] = some (.ptr (relC (nOf X) (setR X (setP k [a, b, c])))) := sp_setX S hX k [a, b, c] (by simp) .non
theorem sp_locX : pureS F 41 [.agg (grC X)] = some (.ptr (relC (nOf X) (locR X))) := sp_Loc S.pe S.po S.gof S.pr (by have := hX.1; omega)
theorem sp_poX : pureS F 60 [.agg (grC X)] = some (.ptr (relC (nOf X) (poR X))) := sp_Po S.po S.gof S.pr (by have := hX.1; omega)
theorem sp_rfX : pureS F 48 [.agg (grC X)] = some (.ptr (relC (nOf X) (rfR X))) := sp_Rf S.pe S.gof S.pr hX
omit hX in
theorem sp_ofX (l : List (Int × Int)) (hl : l.length ≤ 1000) (t : Tok) : pureS F 81 [.agg (grC X), .sl (pairsC l) l.length t] = some (.ptr (relC (nOf X) (newR (nOf X) l))) := sp_of S.gof S.pr X l t (by omega)
set_option maxRecDepth 100000 in
theorem sp_Rs (hr : X.rmw.length ≤ 1000) : pureS F 179 [.agg (grC X)] = some (.ptr (relC (nOf X) (RsP X))) := by
  refine pure_of S.ps.sync_Rs ?_
  have hn := nOf_le X
  simp (disch := omega) only [A_sync_Rs, wp, Nat.reduceAdd, Nat.reduceMul, Nat.reduceSub, gl, sp_set0 S hX, sp_locX S hX, sp_rfX S hX, sp_ofX S, sp_maybe S.pr hn, sp_then2 S.ps.sync_then S.pr hn, sp_then1 S.ps.sync_then S.pr hn, sp_plus S.pr hn, sp_or S.pr hn hn, Nat.max_self]
  rfl
set_option maxRecDepth 100000 in
theorem sp_Release (hr : X.rmw.length ≤ 1000) : pureS F 149 [.agg (grC X)] = some (.ptr (relC (nOf X) (ReleaseP X))) := by
  refine pure_of S.ps.sync_Release ?_
  have hn := nOf_le X
  simp (disch := omega) only [A_sync_Release, wp, Nat.reduceAdd, Nat.reduceMul, Nat.reduceSub, gl, sp_setA S hX, sp_setB S hX, sp_poX S hX, sp_Rs S hX hr, sp_then2 S.ps.sync_then S.pr hn, sp_then1 S.ps.sync_then S.pr hn, sp_or S.pr hn hn, Nat.max_self]
  rfl
set_option maxRecDepth 100000 in
theorem sp_Sw (hr : X.rmw.length ≤ 1000) : pureS F 176 [.agg (grC X)] = some (.ptr (relC (nOf X) (SwP X))) := by
  refine pure_of S.ps.sync_Sw ?_
  have hn := nOf_le X
  simp (disch := omega) only [A_sync_Sw, wp, Nat.reduceAdd, Nat.reduceMul, Nat.reduceSub, gl, sp_setA S hX, sp_setB S hX, sp_poX S hX, sp_locX S hX, sp_rfX S hX, sp_Inner S.pe S.gof S.pr hn, sp_Outer S.pe S.gof S.pr hn, sp_Release S hX hr, sp_maybe S.pr hn, sp_then2 S.ps.sync_then S.pr hn, sp_then1 S.ps.sync_then S.pr hn, sp_or S.pr hn hn, Nat.max_self]
  rfl
set_option maxRecDepth 100000 in
theorem sp_Hb (hr : X.rmw.length ≤ 1000) : pureS F 148 [.agg (grC X)] = some (.ptr (relC (nOf X) (HbP X))) := by
  refine pure_of S.ps.sync_Hb ?_
  have hn := nOf_le X
  simp (disch := omega) only [A_sync_Hb, wp, Nat.reduceAdd, Nat.reduceMul, Nat.reduceSub, gl, sp_poX S hX, sp_Sw S hX hr, sp_or S.pr hn hn, sp_plus S.pr hn, Nat.max_self]
  rfl
end
end Go.Ab
end
section
set_option linter.unusedVariables false
set_option linter.unusedSimpArgs false
namespace Go.Ab
variable {F : Funs}
def resC (agg : Option Nat) (g : G) : AV → Option AV
  | .mp b off => match g.hp b with
    | some (.cells cs _) => part cs off agg
    | _ => none
  | _ => none
theorem res_cell (n agg e g) : resE [.cell n agg] e g = resC agg g (e n) := by
  simp only [resE, resAll, resOne, resC]
  cases e n <;> try rfl
  rename_i b off
  simp only
  cases g.hp b with
  | none => rfl
  | some bl =>
    cases bl with
    | cells cs ro => simp only; cases part cs off agg <;> rfl
    | map _ => rfl
    | tok _ => rfl
end Go.Ab
end
section
set_option linter.unusedVariables false
set_option linter.unusedSimpArgs false
namespace Go.Ab
structure Q4 where
  ii : Rw
  ic : Rw
  ci : Rw
  cc : Rw
inductive Pp (q : Q4) : Nat → Nat → Nat → Prop
  | b0 {a b} : hb q.ii a b = true → Pp q 0 a b
  | b1 {a b} : hb q.ic a b = true → Pp q 1 a b
  | b2 {a b} : hb q.ci a b = true → Pp q 2 a b
  | b3 {a b} : hb q.cc a b = true → Pp q 3 a b
  | r1 {a b} : Pp q 2 a b → Pp q 0 a b
  | r2 {a c b} : Pp q 1 a c → Pp q 2 c b → Pp q 0 a b
  | r3 {a c b} : Pp q 0 a c → Pp q 0 c b → Pp q 0 a b
  | r4 {a b} : Pp q 0 a b → Pp q 1 a b
  | r5 {a b} : Pp q 3 a b → Pp q 1 a b
  | r6 {a c b} : Pp q 1 a c → Pp q 3 c b → Pp q 1 a b
  | r7 {a c b} : Pp q 0 a c → Pp q 1 c b → Pp q 1 a b
  | r8 {a c b} : Pp q 2 a c → Pp q 0 c b → Pp q 2 a b
  | r9 {a c b} : Pp q 3 a c → Pp q 2 c b → Pp q 2 a b
  | r10 {a b} : Pp q 2 a b → Pp q 3 a b
  | r11 {a c b} : Pp q 2 a c → Pp q 1 c b → Pp q 3 a b
  | r12 {a c b} : Pp q 3 a c → Pp q 3 c b → Pp q 3 a b
structure WfQ (n : Nat) (q : Q4) : Prop where
  ii : Wf n q.ii
  ic : Wf n q.ic
  ci : Wf n q.ci
  cc : Wf n q.cc
structure LeQ (q p : Q4) : Prop where
  ii : ∀ a b, hb q.ii a b = true → hb p.ii a b = true
  ic : ∀ a b, hb q.ic a b = true → hb p.ic a b = true
  ci : ∀ a b, hb q.ci a b = true → hb p.ci a b = true
  cc : ∀ a b, hb q.cc a b = true → hb p.cc a b = true
theorem LeQ.refl (q : Q4) : LeQ q q := ⟨fun _ _ h => h, fun _ _ h => h, fun _ _ h => h, fun _ _ h => h⟩
theorem LeQ.trans {p q r : Q4} (h : LeQ p q) (k : LeQ q r) : LeQ p r := ⟨fun a b x => k.ii a b (h.ii a b x), fun a b x => k.ic a b (h.ic a b x), fun a b x => k.ci a b (h.ci a b x), fun a b x => k.cc a b (h.cc a b x)⟩
structure InP (q0 q : Q4) : Prop where
  ii : ∀ a b, hb q.ii a b = true → Pp q0 0 a b
  ic : ∀ a b, hb q.ic a b = true → Pp q0 1 a b
  ci : ∀ a b, hb q.ci a b = true → Pp q0 2 a b
  cc : ∀ a b, hb q.cc a b = true → Pp q0 3 a b
theorem InP.base (q : Q4) : InP q q := ⟨fun _ _ h => .b0 h, fun _ _ h => .b1 h, fun _ _ h => .b2 h, fun _ _ h => .b3 h⟩
section
variable {n : Nat} {q : Q4} (w : WfQ n q)
include w
end
end Go.Ab
end
section
namespace Go.Ab
def A_ppo_Ppo : AFun := { res := [.t 2], body := (.seq (.reg false [{ dst := some 1, op := .box (.t 0) },
  { dst := some 2, op := .mv (.c (.nilp)) }])
 (.seq (.reg false [{ dst := some 10, op := .ld (some 8) (.t 1) },
  { dst := some 11, op := .call .pure (.c (.fn 165 [] [])) [.t 10] },
  { dst := some 9, op := .mv (.t 11) },
  { dst := some 12, op := .ext 0 (.t 9) },
  { dst := some 13, op := .ext 1 (.t 9) },
  { dst := some 14, op := .ext 2 (.t 9) },
  { dst := some 15, op := .ext 3 (.t 9) },
  { dst := some 3, op := .mv (.t 12) },
  { dst := some 4, op := .mv (.t 13) },
  { dst := some 5, op := .mv (.t 14) },
  { dst := some 6, op := .mv (.t 15) }])
 (.seq (.reg true [{ dst := some 16, op := .ld (some 8) (.t 1), pre := [] },
  { dst := some 17, op := .call .pure (.c (.fn 166 [] [])) [.t 16, .c (.fn 167 [] [])], pre := [] },
  { dst := some 18, op := .ld (some 8) (.t 1), pre := [] },
  { dst := some 19, op := .call .pure (.c (.fn 166 [] [])) [.t 18, .c (.fn 168 [] [])], pre := [] },
  { dst := some 7, op := .mv (.t 17) },
  { dst := some 8, op := .mv (.t 19) }])
 (.seq (.reg false [{ dst := some 20, op := .mv (.t 7) },
  { dst := some 21, op := .mv (.t 3) },
  { dst := some 22, op := .call .pure (.c (.fn 23 [] [])) [.t 20, .t 21] },
  { dst := some 23, op := .mv (.t 7) },
  { dst := some 24, op := .call .pure (.c (.fn 23 [] [])) [.t 22, .t 23] },
  { dst := some 25, op := .mv (.t 7) },
  { dst := some 26, op := .mv (.t 4) },
  { dst := some 27, op := .call .pure (.c (.fn 23 [] [])) [.t 25, .t 26] },
  { dst := some 28, op := .mv (.t 8) },
  { dst := some 29, op := .call .pure (.c (.fn 23 [] [])) [.t 27, .t 28] },
  { dst := some 30, op := .call .pure (.c (.fn 24 [] [])) [.t 24, .t 29] },
  { dst := some 2, op := .mv (.t 30) }])
 .ret)))) }
def A_ppo_Rdw : AFun := { res := [.t 2], body := (.seq (.reg false [{ dst := some 1, op := .box (.t 0) },
  { dst := some 2, op := .mv (.c (.nilp)) }])
 (.seq (.reg true [{ dst := some 3, op := .ld (some 8) (.t 1), pre := [] },
  { dst := some 4, op := .ld (some 8) (.t 1), pre := [] },
  { dst := some 5, op := .call .pure (.c (.fn 50 [] [])) [.t 4], pre := [] },
  { dst := some 6, op := .call .pure (.c (.fn 170 [] [])) [.t 3, .t 5], pre := [] },
  { dst := some 2, op := .mv (.t 6) }])
 .ret)) }
def A_ppo_Detour : AFun := { res := [.t 2], body := (.seq (.reg false [{ dst := some 1, op := .box (.t 0) },
  { dst := some 2, op := .mv (.c (.nilp)) }])
 (.seq (.reg true [{ dst := some 3, op := .ld (some 8) (.t 1), pre := [] },
  { dst := some 4, op := .ld (some 8) (.t 1), pre := [] },
  { dst := some 5, op := .call .pure (.c (.fn 49 [] [])) [.t 4], pre := [] },
  { dst := some 6, op := .call .pure (.c (.fn 170 [] [])) [.t 3, .t 5], pre := [] },
  { dst := some 2, op := .mv (.t 6) }])
 .ret)) }
def A_ppo_Parts : AFun := { res := [.t 2, .t 3, .t 4, .t 5], body := (.seq (.reg false [{ dst := some 1, op := .box (.t 0) },
  { dst := some 2, op := .mv (.c (.nilp)) },
  { dst := some 3, op := .mv (.c (.nilp)) },
  { dst := some 4, op := .mv (.c (.nilp)) },
  { dst := some 5, op := .mv (.c (.nilp)) }])
 (.scp (.seq (.reg false [{ dst := some 14, op := .ld (some 8) (.t 1) },
  { dst := some 15, op := .call .pure (.c (.fn 166 [] [])) [.t 14, .c (.fn 219 [] [])] },
  { dst := some 6, op := .mv (.t 15) }])
 (.seq (.reg true [{ dst := some 16, op := .ld (some 8) (.t 1), pre := [] },
  { dst := some 17, op := .fa 5 (.t 1) },
  { dst := some 18, op := .ld none (.t 17), pre := [] },
  { dst := some 19, op := .call .pure (.c (.fn 81 [] [])) [.t 16, .t 18], pre := [] },
  { dst := some 20, op := .ld (some 8) (.t 1), pre := [] },
  { dst := some 21, op := .fa 6 (.t 1) },
  { dst := some 22, op := .ld none (.t 21), pre := [] },
  { dst := some 23, op := .call .pure (.c (.fn 81 [] [])) [.t 20, .t 22], pre := [] },
  { dst := some 24, op := .mv (.t 6) },
  { dst := some 25, op := .call .pure (.c (.fn 23 [] [])) [.t 23, .t 24], pre := [] },
  { dst := some 26, op := .ld (some 8) (.t 1), pre := [] },
  { dst := some 27, op := .fa 7 (.t 1) },
  { dst := some 28, op := .ld none (.t 27), pre := [] },
  { dst := some 29, op := .call .pure (.c (.fn 81 [] [])) [.t 26, .t 28], pre := [] },
  { dst := some 30, op := .mv (.t 6) },
  { dst := some 31, op := .call .pure (.c (.fn 23 [] [])) [.t 29, .t 30], pre := [] },
  { dst := some 7, op := .mv (.t 19) },
  { dst := some 8, op := .mv (.t 25) },
  { dst := some 9, op := .mv (.t 31) }])
 (.seq (.reg true [{ dst := some 32, op := .mv (.t 7) },
  { dst := some 33, op := .ld (some 8) (.t 1), pre := [] },
  { dst := some 34, op := .call .pure (.c (.fn 145 [] [])) [.t 33], pre := [] },
  { dst := some 35, op := .ld (some 8) (.t 1), pre := [] },
  { dst := some 36, op := .ld (some 8) (.t 1), pre := [] },
  { dst := some 37, op := .call .pure (.c (.fn 48 [] [])) [.t 36], pre := [] },
  { dst := some 38, op := .call .pure (.c (.fn 39 [] [])) [.t 35, .t 37], pre := [] },
  { dst := some 39, op := .bsl true 2 ([.nilp, .nilp]) [(0, 1, .t 34), (1, 1, .t 38)], pre := [] },
  { dst := some 40, op := .call .pure (.c (.fn 220 [] [])) [.t 32, .t 39], pre := [] },
  { dst := some 2, op := .mv (.t 40) }])
 (.seq (.reg false [{ dst := some 41, op := .fa 1 (.t 1) },
  { dst := some 42, op := .ld none (.t 41) },
  { dst := some 43, op := .len (.t 42) },
  { dst := some 44, op := .call .pure (.c (.fn 11 [] [])) [.t 43, .c (.sl [] 0 .rig)] },
  { dst := some 3, op := .mv (.t 44) }])
 (.seq (.reg false [{ dst := some 45, op := .mv (.t 9) },
  { dst := some 46, op := .ld (some 8) (.t 1) },
  { dst := some 47, op := .call .pure (.c (.fn 146 [] [])) [.t 46] },
  { dst := some 48, op := .bsl true 1 ([.nilp]) [(0, 1, .t 47)] },
  { dst := some 49, op := .call .pure (.c (.fn 220 [] [])) [.t 45, .t 48] },
  { dst := some 4, op := .mv (.t 49) }])
 (.seq (.reg false [{ dst := some 50, op := .mv (.t 7) },
  { dst := some 51, op := .ld (some 8) (.t 1) },
  { dst := some 52, op := .call .pure (.c (.fn 221 [] [])) [.t 51] },
  { dst := some 53, op := .mv (.t 8) },
  { dst := some 54, op := .bsl true 2 ([.nilp, .nilp]) [(0, 1, .t 52), (1, 1, .t 53)] },
  { dst := some 55, op := .call .pure (.c (.fn 220 [] [])) [.t 50, .t 54] },
  { dst := some 5, op := .mv (.t 55) }])
 (.seq .lab
 (.seq (.blk 0 (.loop (.blk 1 (.seq (.reg false [{ dst := some 56, op := .mv (.t 2) },
  { dst := some 57, op := .mv (.t 4) },
  { dst := some 58, op := .mv (.t 3) },
  { dst := some 59, op := .mv (.t 4) },
  { dst := some 60, op := .call .pure (.c (.fn 23 [] [])) [.t 58, .t 59] },
  { dst := some 61, op := .mv (.t 2) },
  { dst := some 62, op := .mv (.t 2) },
  { dst := some 63, op := .call .pure (.c (.fn 23 [] [])) [.t 61, .t 62] },
  { dst := some 64, op := .bsl true 3 ([.nilp, .nilp, .nilp]) [(0, 1, .t 57), (1, 1, .t 60), (2, 1, .t 63)] },
  { dst := some 65, op := .call .pure (.c (.fn 220 [] [])) [.t 56, .t 64] },
  { dst := some 10, op := .mv (.t 65) }])
 (.seq (.reg false [{ dst := some 66, op := .mv (.t 3) },
  { dst := some 67, op := .mv (.t 2) },
  { dst := some 68, op := .mv (.t 5) },
  { dst := some 69, op := .mv (.t 3) },
  { dst := some 70, op := .mv (.t 5) },
  { dst := some 71, op := .call .pure (.c (.fn 23 [] [])) [.t 69, .t 70] },
  { dst := some 72, op := .mv (.t 2) },
  { dst := some 73, op := .mv (.t 3) },
  { dst := some 74, op := .call .pure (.c (.fn 23 [] [])) [.t 72, .t 73] },
  { dst := some 75, op := .bsl true 4 (List.replicate 4 (.nilp)) [(0, 1, .t 67), (1, 1, .t 68), (2, 1, .t 71), (3, 1, .t 74)] },
  { dst := some 76, op := .call .pure (.c (.fn 220 [] [])) [.t 66, .t 75] },
  { dst := some 11, op := .mv (.t 76) }])
 (.seq (.reg false [{ dst := some 77, op := .mv (.t 4) },
  { dst := some 78, op := .mv (.t 4) },
  { dst := some 79, op := .mv (.t 2) },
  { dst := some 80, op := .call .pure (.c (.fn 23 [] [])) [.t 78, .t 79] },
  { dst := some 81, op := .mv (.t 5) },
  { dst := some 82, op := .mv (.t 4) },
  { dst := some 83, op := .call .pure (.c (.fn 23 [] [])) [.t 81, .t 82] },
  { dst := some 84, op := .bsl true 2 ([.nilp, .nilp]) [(0, 1, .t 80), (1, 1, .t 83)] },
  { dst := some 85, op := .call .pure (.c (.fn 220 [] [])) [.t 77, .t 84] },
  { dst := some 12, op := .mv (.t 85) }])
 (.seq (.reg false [{ dst := some 86, op := .mv (.t 5) },
  { dst := some 87, op := .mv (.t 4) },
  { dst := some 88, op := .mv (.t 4) },
  { dst := some 89, op := .mv (.t 3) },
  { dst := some 90, op := .call .pure (.c (.fn 23 [] [])) [.t 88, .t 89] },
  { dst := some 91, op := .mv (.t 5) },
  { dst := some 92, op := .mv (.t 5) },
  { dst := some 93, op := .call .pure (.c (.fn 23 [] [])) [.t 91, .t 92] },
  { dst := some 94, op := .bsl true 3 ([.nilp, .nilp, .nilp]) [(0, 1, .t 87), (1, 1, .t 90), (2, 1, .t 93)] },
  { dst := some 95, op := .call .pure (.c (.fn 220 [] [])) [.t 86, .t 94] },
  { dst := some 13, op := .mv (.t 95) }])
 (.seq (.seq (.reg false [{ dst := some 96, op := .mv (.t 10) },
  { dst := some 97, op := .mv (.t 2) },
  { dst := some 98, op := .call .pure (.c (.fn 22 [] [])) [.t 96, .t 97] },
  { dst := some 99, op := .mv (.t 98) },
  { dst := some 100, op := .mv (.t 11), grd := some (99, true) },
  { dst := some 101, op := .mv (.t 3), grd := some (99, true) },
  { dst := some 102, op := .call .pure (.c (.fn 22 [] [])) [.t 100, .t 101], grd := some (99, true) },
  { dst := some 103, op := .pick (.t 99) (.t 102) (.c (.b false)) },
  { dst := some 104, op := .mv (.t 103) },
  { dst := some 105, op := .mv (.t 12), grd := some (104, true) },
  { dst := some 106, op := .mv (.t 4), grd := some (104, true) },
  { dst := some 107, op := .call .pure (.c (.fn 22 [] [])) [.t 105, .t 106], grd := some (104, true) },
  { dst := some 108, op := .pick (.t 104) (.t 107) (.c (.b false)) },
  { dst := some 109, op := .mv (.t 108) },
  { dst := some 110, op := .mv (.t 13), grd := some (109, true) },
  { dst := some 111, op := .mv (.t 5), grd := some (109, true) },
  { dst := some 112, op := .call .pure (.c (.fn 22 [] [])) [.t 110, .t 111], grd := some (109, true) },
  { dst := some 113, op := .pick (.t 109) (.t 112) (.c (.b false)) }])
 (.cond (.t 113) (.ext 0)
 .skip))
 (.reg false [{ dst := some 114, op := .mv (.t 10) },
  { dst := some 115, op := .mv (.t 11) },
  { dst := some 116, op := .mv (.t 12) },
  { dst := some 117, op := .mv (.t 13) },
  { dst := some 2, op := .mv (.t 114) },
  { dst := some 3, op := .mv (.t 115) },
  { dst := some 4, op := .mv (.t 116) },
  { dst := some 5, op := .mv (.t 117) }])))))))))
 (.seq (.reg false [{ dst := some 118, op := .mv (.t 2) },
  { dst := some 119, op := .mv (.t 3) },
  { dst := some 120, op := .mv (.t 4) },
  { dst := some 121, op := .mv (.t 5) },
  { dst := some 2, op := .mv (.t 118) },
  { dst := some 3, op := .mv (.t 119) },
  { dst := some 4, op := .mv (.t 120) },
  { dst := some 5, op := .mv (.t 121) }])
 .ret))))))))))) }
def A_ppo_isR : AFun := { res := [.t 2], body := (.seq (.reg false [{ dst := some 1, op := .box (.t 0) },
  { dst := some 2, op := .mv (.c (.b false)) }])
 (.seq (.reg false [{ dst := some 3, op := .fa 1 (.t 1) },
  { dst := some 4, op := .ld none (.t 3) },
  { dst := some 5, op := .bin .eql (.t 4) (.c (.i .i64 1)) },
  { dst := some 2, op := .mv (.t 5) }])
 .ret)) }
def A_ppo_isW : AFun := { res := [.t 2], body := (.seq (.reg false [{ dst := some 1, op := .box (.t 0) },
  { dst := some 2, op := .mv (.c (.b false)) }])
 (.seq (.reg false [{ dst := some 3, op := .fa 1 (.t 1) },
  { dst := some 4, op := .ld none (.t 3) },
  { dst := some 5, op := .bin .eql (.t 4) (.c (.i .i64 2)) },
  { dst := some 2, op := .mv (.t 5) }])
 .ret)) }
def A_ppo_by : AFun := { res := [.t 4], body := (.seq (.reg false [{ dst := some 2, op := .box (.t 0) },
  { dst := some 4, op := .mv (.c (.nilp)) }])
 (.seq (.reg true [{ dst := some 5, op := .ld (some 8) (.t 2), pre := [] },
  { dst := some 6, op := .call .pure (.c (.fn 221 [] [])) [.t 5], pre := [] },
  { dst := some 7, op := .ld (some 8) (.t 2), pre := [] },
  { dst := some 8, op := .mv (.t 1) },
  { dst := some 9, op := .call .pure (.c (.fn 40 [] [])) [.t 7, .t 8], pre := [] },
  { dst := some 10, op := .ld (some 8) (.t 2), pre := [] },
  { dst := some 11, op := .ld (some 8) (.t 2), pre := [] },
  { dst := some 12, op := .call .pure (.c (.fn 48 [] [])) [.t 11], pre := [] },
  { dst := some 13, op := .call .pure (.c (.fn 40 [] [])) [.t 10, .t 12], pre := [] },
  { dst := some 14, op := .call .pure (.c (.fn 23 [] [])) [.t 9, .t 13], pre := [] },
  { dst := some 15, op := .call .pure (.c (.fn 18 [] [])) [.t 6, .t 14], pre := [] },
  { dst := some 4, op := .mv (.t 15) }])
 .ret)) }
def A_ppo_isM : AFun := { res := [.t 2], body := (.seq (.reg false [{ dst := some 1, op := .box (.t 0) },
  { dst := some 2, op := .mv (.c (.b false)) }])
 (.seq (.reg false [{ dst := some 3, op := .fa 1 (.t 1) },
  { dst := some 4, op := .ld none (.t 3) },
  { dst := some 5, op := .bin .eql (.t 4) (.c (.i .i64 1)) },
  { dst := some 6, op := .mv (.t 5) },
  { dst := some 7, op := .fa 1 (.t 1), grd := some (6, false) },
  { dst := some 8, op := .ld none (.t 7), grd := some (6, false) },
  { dst := some 9, op := .bin .eql (.t 8) (.c (.i .i64 2)), grd := some (6, false) },
  { dst := some 10, op := .pick (.t 6) (.c (.b true)) (.t 9) },
  { dst := some 2, op := .mv (.t 10) }])
 .ret)) }
def A_ppo_or : AFun := { res := [.t 4], body := (.seq (.reg false [{ dst := some 4, op := .mv (.c (.nilp)) }])
 (.seq (.seq (.reg false [{ dst := some 7, op := .mv (.t 1) },
  { dst := some 8, op := .len (.t 7) },
  { dst := some 9, op := .mv (.c (.i .i64 0)) }])
 (.blk 0 (.loop (.seq (.reg false [{ dst := some 10, op := .bin .lss (.t 9) (.t 8) }])
 (.seq (.cond (.t 10) .skip
 (.ext 0))
 (.seq (.blk 1 (.seq (.reg false [{ dst := some 11, op := .ia 1 (.t 7) (.t 9) },
  { dst := some 12, op := .ld none (.t 11) },
  { dst := some 6, op := .mv (.t 12) }])
 (.reg false [{ dst := some 13, op := .mv (.t 0) },
  { dst := some 14, op := .mv (.t 6) },
  { dst := some 15, op := .call .pure (.c (.fn 24 [] [])) [.t 13, .t 14] },
  { dst := some 0, op := .mv (.t 15) }])))
 (.reg false [{ dst := some 16, op := .bin .add (.t 9) (.c (.i .i64 1)) },
  { dst := some 9, op := .mv (.t 16) }])))))))
 (.seq (.reg false [{ dst := some 17, op := .mv (.t 0) },
  { dst := some 4, op := .mv (.t 17) }])
 .ret))) }
def A_ppo_ploc : AFun := { res := [.t 2], body := (.seq (.reg false [{ dst := some 1, op := .box (.t 0) },
  { dst := some 2, op := .mv (.c (.nilp)) }])
 (.seq (.reg false [{ dst := some 4, op := .ld (some 8) (.t 1) },
  { dst := some 5, op := .call .pure (.c (.fn 166 [] [])) [.t 4, .c (.fn 246 [] [])] },
  { dst := some 3, op := .mv (.t 5) }])
 (.seq (.reg true [{ dst := some 6, op := .mv (.t 3) },
  { dst := some 7, op := .ld (some 8) (.t 1), pre := [] },
  { dst := some 8, op := .ld (some 8) (.t 1), pre := [] },
  { dst := some 9, op := .call .pure (.c (.fn 41 [] [])) [.t 8], pre := [] },
  { dst := some 10, op := .call .pure (.c (.fn 39 [] [])) [.t 7, .t 9], pre := [] },
  { dst := some 11, op := .call .pure (.c (.fn 23 [] [])) [.t 6, .t 10], pre := [] },
  { dst := some 2, op := .mv (.t 11) }])
 .ret))) }
def A_ppo_ploc_1 : AFun := { res := [.t 2], body := (.seq (.reg false [{ dst := some 1, op := .box (.t 0) },
  { dst := some 2, op := .mv (.c (.b false)) }])
 (.seq (.reg false [{ dst := some 3, op := .fa 0 (.t 1) },
  { dst := some 4, op := .ld none (.t 3) },
  { dst := some 5, op := .bin .neq (.t 4) (.c (.i .i64 0)) },
  { dst := some 2, op := .mv (.t 5) }])
 .ret)) }
structure Pk_ppo (F : Funs) : Prop where
  ppo_Ppo : F 143 = some A_ppo_Ppo
  ppo_Rdw : F 145 = some A_ppo_Rdw
  ppo_Detour : F 146 = some A_ppo_Detour
  ppo_Parts : F 165 = some A_ppo_Parts
  ppo_isR : F 167 = some A_ppo_isR
  ppo_isW : F 168 = some A_ppo_isW
  ppo_by : F 170 = some A_ppo_by
  ppo_isM : F 219 = some A_ppo_isM
  ppo_or : F 220 = some A_ppo_or
  ppo_ploc : F 221 = some A_ppo_ploc
  ppo_ploc_1 : F 246 = some A_ppo_ploc_1
end Go.Ab
end
section
set_option linter.unusedVariables false
set_option linter.unusedSimpArgs false
namespace Go.Ab
variable {F : Funs}
structure PpoF (F : Funs) : Prop where
  pp : Pk_ppo F
  pe : Pk_eco F
  pr : Pk_rel F
  po : F 60 = some A_graph_Po
  gof : F 81 = some A_graph_Of
  set : F 166 = some A_graph_Set
  ls : RelLs F
section
variable (X : Gr)
end
def orL (R : Rw) (l : List Rw) : Rw := l.foldl orR R
section
variable (S : PpoF F)
include S
variable {X : Gr} (hX : Few X)
include hX
end
end Go.Ab
end
section
set_option linter.unusedVariables false
set_option linter.unusedSimpArgs false
namespace Go.Ab
variable {F : Funs}
structure OrdF (F : Funs) : Prop where
  po : Pk_order F
  sy : SyncF F
def oR (e : Ev) : Bool := e.kd == 1
def oW (e : Ev) : Bool := e.kd == 2
def oF (e : Ev) : Bool := e.kd == 3
def oRel (e : Ev) : Bool := e.kd == 2 && e.md == 2
def oAcq (e : Ev) : Bool := e.kd == 1 && e.md == 1
def oSc (e : Ev) : Bool := e.kd == 3 && e.md == 4
def oEx (e : Ev) : Bool := e.kd == 1 && e.ex
section
variable (S : OrdF F)
include S
set_option maxRecDepth 100000 in
theorem so_R (e : Ev) : pureS F 240 [.agg (evC e)] = some (.b (oR e)) := by
  refine pure_of S.po.order_isR ?_
  simp (disch := omega) only [A_order_isR, wp, Nat.reduceAdd, Nat.reduceMul, Nat.reduceSub, gl]
  rfl
set_option maxRecDepth 100000 in
theorem so_W (e : Ev) : pureS F 203 [.agg (evC e)] = some (.b (oW e)) := by
  refine pure_of S.po.order_isW ?_
  simp (disch := omega) only [A_order_isW, wp, Nat.reduceAdd, Nat.reduceMul, Nat.reduceSub, gl]
  rfl
set_option maxRecDepth 100000 in
theorem so_F (e : Ev) : pureS F 200 [.agg (evC e)] = some (.b (oF e)) := by
  refine pure_of S.po.order_isF ?_
  simp (disch := omega) only [A_order_isF, wp, Nat.reduceAdd, Nat.reduceMul, Nat.reduceSub, gl]
  rfl
set_option maxRecDepth 100000 in
theorem so_Rel (e : Ev) : pureS F 196 [.agg (evC e)] = some (.b (oRel e)) := by
  refine pure_of S.po.order_isRel ?_
  have h := so_W S e
  unfold oRel
  unfold oW at h
  cases c : (e.kd == 2) with
  | true => rw [c] at h; simp (disch := omega) only [A_order_isRel, wp, Nat.reduceAdd, Nat.reduceMul, Nat.reduceSub, gl, h]
  | false => rw [c] at h; simp (disch := omega) only [A_order_isRel, wp, Nat.reduceAdd, Nat.reduceMul, Nat.reduceSub, gl, h]
set_option maxRecDepth 100000 in
theorem so_Acq (e : Ev) : pureS F 198 [.agg (evC e)] = some (.b (oAcq e)) := by
  refine pure_of S.po.order_isAcq ?_
  have h := so_R S e
  unfold oAcq
  unfold oR at h
  cases c : (e.kd == 1) with
  | true => rw [c] at h; simp (disch := omega) only [A_order_isAcq, wp, Nat.reduceAdd, Nat.reduceMul, Nat.reduceSub, gl, h]
  | false => rw [c] at h; simp (disch := omega) only [A_order_isAcq, wp, Nat.reduceAdd, Nat.reduceMul, Nat.reduceSub, gl, h]
set_option maxRecDepth 100000 in
theorem so_Sc (e : Ev) : pureS F 241 [.agg (evC e)] = some (.b (oSc e)) := by
  refine pure_of S.po.order_isSc ?_
  have h := so_F S e
  unfold oSc
  unfold oF at h
  cases c : (e.kd == 3) with
  | true => rw [c] at h; simp (disch := omega) only [A_order_isSc, wp, Nat.reduceAdd, Nat.reduceMul, Nat.reduceSub, gl, h]
  | false => rw [c] at h; simp (disch := omega) only [A_order_isSc, wp, Nat.reduceAdd, Nat.reduceMul, Nat.reduceSub, gl, h]
set_option maxRecDepth 100000 in
theorem so_Ex (e : Ev) : pureS F 245 [.agg (evC e)] = some (.b (oEx e)) := by
  refine pure_of S.po.order_isEx ?_
  have h := so_R S e
  unfold oEx
  unfold oR at h
  cases c : (e.kd == 1) with
  | true => rw [c] at h; simp (disch := omega) only [A_order_isEx, wp, Nat.reduceAdd, Nat.reduceMul, Nat.reduceSub, gl, h]
  | false => rw [c] at h; simp (disch := omega) only [A_order_isEx, wp, Nat.reduceAdd, Nat.reduceMul, Nat.reduceSub, gl, h]
end
section
variable (X : Gr)
def bobL : List Rw := [thenR (nOf X) (poR X) (setR X oRel), thenR (nOf X) (setR X oAcq) (poR X), thenR (nOf X) (poR X) (setR X oF), thenR (nOf X) (setR X oF) (poR X), thenR (nOf X) (thenR (nOf X) (setR X oRel) (locR X)) (setR X oW)]
def bobR : Rw := orL (newR (nOf X) []) (bobL X)
def depsR : Rw := orL (newR (nOf X) []) [newR (nOf X) X.data, newR (nOf X) X.ctrl, thenR (nOf X) (setR X oEx) (poR X)]
def oppoR : Rw := thenR (nOf X) (thenR (nOf X) (setR X oR) (plusR (nOf X) (orR (depsR X) (partR inner X (nOf X) (rfR X))))) (setR X oW)
def odetR : Rw := andR (thenR (nOf X) (partR outer X (nOf X) (relE (coS X.co) X)) (partR outer X (nOf X) (rfR X))) (poR X)
def pscR : Rw := thenR (nOf X) (thenR (nOf X) (thenR (nOf X) (thenR (nOf X) (setR X oSc) (HbP X)) (ecoR X)) (HbP X)) (setR X oSc)
def arR : Rw := orL (newR (nOf X) []) [partR outer X (nOf X) (rfR X), bobR X, oppoR X, odetR X, pscR X]
end
def ClosR (F : Funs) (n : Nat) (f : AV) (R : Rw) : Prop := ∃ fid caps, f = .fn fid [] caps ∧ pureS F fid caps = some (.ptr (relC n R)) ∧ (∀ hp, frzL hp depth caps = some caps) ∧ ∀ hp, caps.flatMap (vis hp depth) = []
def ClosL (F : Funs) (n : Nat) : List AV → List Rw → Prop
  | [], [] => True
  | f :: fs, R :: Rs => ClosR F n f R ∧ ClosL F n fs Rs
  | _, _ => False
theorem closL_len {n : Nat} : ∀ {fs : List AV} {Rs : List Rw}, ClosL F n fs Rs → fs.length = Rs.length
  | [], [], _ => rfl
  | f :: fs, R :: Rs, h => by simp [closL_len h.2]
theorem closL_at {n : Nat} : ∀ {fs : List AV} {Rs : List Rw} {k : Nat}, ClosL F n fs Rs → (h : k < Rs.length) → ∃ f, fs[k]? = some f ∧ ClosR F n f (Rs.getD k fun _ => 0)
  | [], [], _, _, hk => absurd hk (Nat.not_lt_zero _)
  | [], _ :: _, _, h, _ => h.elim
  | _ :: _, [], _, h, _ => h.elim
  | f :: fs, R :: Rs, 0, h, _ => ⟨f, rfl, h.1⟩
  | f :: fs, R :: Rs, k + 1, h, hk => closL_at (k := k) h.2 (by simpa using hk)
section
variable (S : OrdF F) {X : Gr} (hX : Few X)
include S hX
set_option maxRecDepth 100000 in
set_option maxHeartbeats 4000000 in
omit hX in
theorem so_all {fs : List AV} {Rs : List Rw} (h : ClosL F (nOf X) fs Rs) (hl : Rs.length ≤ 1000) (t : Tok) : pureS F 193 [.agg (grC X), .sl fs Rs.length t] = some (.ptr (relC (nOf X) (orL (newR (nOf X) []) Rs))) := by
  refine pure_of S.po.order_all ?_
  have hn := nOf_le X
  have dn : pureS F 11 [.i .i64 X.evs.length, .sl [] 0 .non] = some (.ptr (relC (nOf X) (newR (nOf X) []))) := sp_new S.sy.pr X.evs.length [] .non (by simp)
  have hfl := closL_len h
  simp (disch := omega) only [A_order_all, wp, Nat.reduceAdd, Nat.reduceMul, Nat.reduceSub, gl, dn]
  refine W_loop (fun q e g => ∃ k, q = Rs.length - k ∧ k ≤ Rs.length ∧ e 5 = .ptr (relC (nOf X) (orL (newR (nOf X) []) (Rs.take k))) ∧ e 12 = .sl fs Rs.length t ∧ e 13 = .i .i64 Rs.length ∧ e 14 = .i .i64 k) Rs.length ?_ ?_
  · refine ⟨0, rfl, Nat.zero_le _, ?_⟩
    simp (disch := omega) only [wp, Nat.reduceAdd, Nat.reduceMul, Nat.reduceSub]
    exact ⟨by rfl, rfl⟩
  · rintro q e g ⟨k, rfl, hk, e5, e12, e13, e14⟩
    by_cases hk' : k < Rs.length
    · have hk1 : (k : Int) < Rs.length := by omega
      have hwk := succ_wrap (k := k) (by omega)
      obtain ⟨f, hf, fid, caps, rfl, hcall, hc, hv⟩ := closL_at h hk'
      have hp : part (fs.drop (k * 1)) 0 none = some (.fn fid [] caps) := by
        simp only [part, List.getElem?_drop, Nat.mul_one, Nat.add_zero, hf]
      have hs : orL (newR (nOf X) []) (Rs.take (k + 1)) = orR (orL (newR (nOf X) []) (Rs.take k)) (Rs.getD k fun _ => 0) := by
        unfold orL
        rw [List.take_add_one, List.foldl_append, List.getElem?_eq_getElem hk', List.getD_eq_getElem?_getD, List.getElem?_eq_getElem hk']
        rfl
      generalize orL (newR (nOf X) []) (Rs.take k) = A at e5 hs
      generalize (Rs.getD k fun _ => 0) = B at hcall hs
      simp (disch := omega) only [wp, Nat.reduceAdd, Nat.reduceMul, Nat.reduceSub, gl, e5, e12, e13, e14, hk1, hp, hc, hv, hcall, sp_or S.sy.pr hn hn, Nat.max_self, hwk]
      exact ⟨Rs.length - (k + 1), by omega, k + 1, rfl, by omega, by rw [hs], rfl⟩
    · obtain rfl : k = Rs.length := by omega
      have hk1 : ¬ ((Rs.length : Int) < Rs.length) := by omega
      rw [List.take_length] at e5
      simp (disch := omega) only [wp, Nat.reduceAdd, Nat.reduceMul, Nat.reduceSub, gl, e5, e12, e13, e14, hk1]
set_option maxRecDepth 100000 in
theorem so_set {fid : Nat} {p : Ev → Bool} (hp : ∀ e, pureS F fid [.agg (evC e)] = some (.b (p e))) : pureS F 195 [.agg (grC X), .fn fid [] []] = some (.ptr (relC (nOf X) (setR X p))) := by
  refine pure_of S.po.order_set ?_
  have hs := sp_setE S.sy.set S.sy.gof S.sy.pr (X := X) (by have := hX.1; omega) hp (fun hp => frzL_nil hp _) (fun hp => rfl)
  simp (disch := omega) only [A_order_set, wp, Nat.reduceAdd, Nat.reduceMul, Nat.reduceSub, gl, hs]
end
end Go.Ab
end
