/- What PowerAny rests on, part 5: lemmas, no claim of its own. -/
import Derived.Test.YtgfjjohnfbhjcaaGreatPPowerAny4
section
set_option linter.unusedVariables false
set_option linter.unusedSimpArgs false
namespace Go.Ab
variable {F : Funs}
def stK (M : Mx) (φ : Nat → Nat → Bool) (n a b : Nat) : Mx := fun i j => if (i < a ∧ j < n) ∨ (i = a ∧ j < b) then M i j && φ i j else M i j
theorem stK_succ (M φ n a b) : upd2 (stK M φ n a b) a b (M a b && φ a b) = stK M φ n a (b + 1) := by
  funext i j
  unfold upd2 stK
  by_cases h1 : i = a ∧ j = b
  · obtain ⟨rfl, rfl⟩ := h1
    rw [if_pos ⟨rfl, rfl⟩, if_pos (by omega)]
  · rw [if_neg h1]
    by_cases h2 : (i < a ∧ j < n) ∨ (i = a ∧ j < b)
    · rw [if_pos h2, if_pos (by omega)]
    · rw [if_neg h2, if_neg (by omega)]
theorem stK_row (M φ n a) : stK M φ n a n = stK M φ n (a + 1) 0 := by
  funext i j
  unfold stK
  by_cases h2 : (i < a ∧ j < n) ∨ (i = a ∧ j < n)
  · rw [if_pos h2, if_pos (by omega)]
  · rw [if_neg h2, if_neg (by omega)]
theorem stK_0 (M φ n) : stK M φ n 0 0 = M := by funext i j; unfold stK; rw [if_neg (by omega)]
theorem stK_at (M φ n a b) : stK M φ n a b a b = M a b := by unfold stK; rw [if_neg (by omega)]
def locV (X : Gr) (i j : Nat) : Bool := (X.evs.getD i ev0).kd != 3 && ((X.evs.getD j ev0).kd != 3 && (X.evs.getD i ev0).lc == (X.evs.getD j ev0).lc)
def locM (X : Gr) : Mx := stK (mpoM X) (locV X) X.evs.length X.evs.length 0
set_option maxRecDepth 100000 in
set_option maxHeartbeats 4000000 in
theorem sp_mLoc (h73 : F 73 = some A_xref09_Loc) (h84 : F 84 = some A_xref06_Po) (h27 : F 27 = some A_xref01_New) {X : Gr} (hn : X.evs.length ≤ 40) : pureS F 73 [.agg (grC X)] = some (.ptr (matC X.evs.length (locM X))) := by
  refine pure_of_thaw h73 (matC_flat _ _) ?_
  have s6 : ∀ b1 b2 b3 b4 b5 b6 c1 c2 c3 c4 c5 c6 : AV, splice [b1, b2, b3, b4, b5, b6] 0 [c1, c2, c3, c4, c5, c6] = [c1, c2, c3, c4, c5, c6] := fun _ _ _ _ _ _ _ _ _ _ _ _ => rfl
  simp (disch := omega) only [A_xref09_Loc, wp, Nat.reduceAdd, Nat.reduceMul, Nat.reduceSub, gl, ml, thaw84 h84 h27 hn]
  generalize hM0 : mpoM X = M0
  have hloc : locM X = stK M0 (locV X) X.evs.length X.evs.length 0 := by unfold locM; rw [hM0]
  refine W_loop (fun q e g => ∃ a : Nat, q = X.evs.length - a ∧ a ≤ X.evs.length ∧ e 1 = .mp 0 0 ∧ e 3 = .mp 3 0 ∧ e 4 = .i .i64 a ∧ g.hp 0 = some (.cells (grC X) false) ∧ g.hp 3 = some (.cells (matC X.evs.length (stK M0 (locV X) X.evs.length a 0)) false) ∧ 3 < g.nx) X.evs.length ?_ ?_
  · refine ⟨0, rfl, Nat.zero_le _, ?_⟩
    simp (disch := omega) only [wp, Nat.reduceAdd, Nat.reduceMul, Nat.reduceSub]
    exact ⟨rfl, by rw [stK_0], by first | omega | (dsimp only; omega)⟩
  · rintro q e g ⟨a, rfl, ha, e1, e3, e4, hg, hm, hnx⟩
    by_cases ha' : a < X.evs.length
    · have ha1 : (a : Int) < X.evs.length := by omega
      have hwa := succ_wrap (k := a) (by omega)
      simp (disch := omega) only [wp, Nat.reduceAdd, Nat.reduceMul, Nat.reduceSub, gl, ml, e1, e3, e4, hg, hm, ha1]
      refine W_loop (fun q e g => ∃ b : Nat, q = X.evs.length - b ∧ b ≤ X.evs.length ∧ e 1 = .mp 0 0 ∧ e 3 = .mp 3 0 ∧ e 4 = .i .i64 a ∧ e 5 = .i .i64 b ∧ g.hp 0 = some (.cells (grC X) false) ∧ g.hp 3 = some (.cells (matC X.evs.length (stK M0 (locV X) X.evs.length a b)) false) ∧ 3 < g.nx) X.evs.length ?_ ?_
      · refine ⟨0, rfl, Nat.zero_le _, ?_⟩
        simp (disch := omega) only [wp, Nat.reduceAdd, Nat.reduceMul, Nat.reduceSub, e1, e3, e4]
        exact ⟨rfl, hg, hm, by first | omega | (dsimp only; omega)⟩
      · rintro q e g ⟨b, rfl, hb, e1, e3, e4, e5, hg, hm, hnx⟩
        by_cases hb' : b < X.evs.length
        · have hb1 : (b : Int) < X.evs.length := by omega
          have hwb := succ_wrap (k := b) (by omega)
          have pa := ev_part ha'
          have pb := ev_part hb'
          have hv : locV X a b = ((X.evs.getD a ev0).kd != 3 && ((X.evs.getD b ev0).kd != 3 && (X.evs.getD a ev0).lc == (X.evs.getD b ev0).lc)) := rfl
          have hs := stK_succ M0 (locV X) X.evs.length a b
          have hat := stK_at M0 (locV X) X.evs.length a b
          have hset := fun x => matC_set (n := X.evs.length) (M := stK M0 (locV X) X.evs.length a b) (a := a) (b := b) (x := x) (by omega)
          generalize X.evs.getD a ev0 = u at pa hv
          generalize X.evs.getD b ev0 = v at pb hv
          obtain ⟨th, kd, md, lc, vl, ex⟩ := u
          obtain ⟨th', kd', md', lc', vl', ex'⟩ := v
          simp only at hv
          generalize locV X a b = z at hs hv
          have fin : ∀ x, x = (M0 a b && z) → X.evs.length - (b + 1) < X.evs.length - b ∧ upd2 (stK M0 (locV X) X.evs.length a b) a b x = stK M0 (locV X) X.evs.length a (b + 1) := fun x hx => ⟨by omega, by rw [hx, hs]⟩
          cases c0 : M0 a b
          case false =>
            rw [c0] at hat
            simp (disch := omega) only [wp, Nat.reduceAdd, Nat.reduceMul, Nat.reduceSub, gl, ml, e1, e3, e4, e5, hg, hm, ha1, hb1, pa, pb, s6, hat, c0, hset, hwb]
            obtain ⟨f1, f2⟩ := fin false (by rw [c0]; rfl)
            exact ⟨_, f1, b + 1, rfl, by omega, rfl, by rw [f2], by first | omega | (dsimp only; omega)⟩
          rw [c0] at hat
          cases c1 : (kd != 3)
          case false =>
            simp (disch := omega) only [wp, Nat.reduceAdd, Nat.reduceMul, Nat.reduceSub, gl, ml, e1, e3, e4, e5, hg, hm, ha1, hb1, pa, pb, s6, hat, c0, c1, hset, hwb]
            obtain ⟨f1, f2⟩ := fin false (by rw [c0, hv, c1]; rfl)
            exact ⟨_, f1, b + 1, rfl, by omega, rfl, by rw [f2], by first | omega | (dsimp only; omega)⟩
          cases c2 : (kd' != 3)
          case false =>
            simp (disch := omega) only [wp, Nat.reduceAdd, Nat.reduceMul, Nat.reduceSub, gl, ml, e1, e3, e4, e5, hg, hm, ha1, hb1, pa, pb, s6, hat, c0, c1, c2, hset, hwb]
            obtain ⟨f1, f2⟩ := fin false (by rw [c0, hv, c1, c2]; rfl)
            exact ⟨_, f1, b + 1, rfl, by omega, rfl, by rw [f2], by first | omega | (dsimp only; omega)⟩
          simp (disch := omega) only [wp, Nat.reduceAdd, Nat.reduceMul, Nat.reduceSub, gl, ml, e1, e3, e4, e5, hg, hm, ha1, hb1, pa, pb, s6, hat, c0, c1, c2, hset, hwb]
          obtain ⟨f1, f2⟩ := fin (lc == lc') (by rw [c0, hv, c1, c2]; simp)
          exact ⟨_, f1, b + 1, rfl, by omega, rfl, by rw [f2], by first | omega | (dsimp only; omega)⟩
        · obtain rfl : b = X.evs.length := by omega
          have hb1 : ¬ ((X.evs.length : Int) < X.evs.length) := by omega
          simp (disch := omega) only [wp, Nat.reduceAdd, Nat.reduceMul, Nat.reduceSub, gl, ml, e1, e3, e4, e5, hg, hm, hb1, hwa]
          exact ⟨X.evs.length - (a + 1), by omega, a + 1, rfl, by omega, rfl, by rw [stK_row], by first | omega | (dsimp only; omega)⟩
    · obtain rfl : a = X.evs.length := by omega
      have ha1 : ¬ ((X.evs.length : Int) < X.evs.length) := by omega
      simp (disch := omega) only [wp, Nat.reduceAdd, Nat.reduceMul, Nat.reduceSub, gl, ml, e1, e3, e4, hg, hm, ha1, hloc]
      exact ⟨_, rfl, hm⟩
def thV (X : Gr) (one : Bool) : Mx := fun i j => (thI X i == thI X j) == one
def prtM (X : Gr) (one : Bool) (A : Mx) : Mx := opM (fun x y => x && y) A (thV X one) X.evs.length
set_option maxRecDepth 100000 in
set_option maxHeartbeats 4000000 in
theorem sp_mpart (h85 : F 85 = some A_xref09_part) (h27 : F 27 = some A_xref01_New) {X : Gr} (hn : X.evs.length ≤ 40) (A : Mx) (one : Bool) : pureS F 85 [.agg (grC X), .ptr (matC X.evs.length A), .b one] = some (.ptr (matC X.evs.length (prtM X one A))) := by
  refine pure_of_thaw h85 (matC_flat _ _) ?_
  have fin0 : prtM X one A = stM (fun x y => x && y) A (thV X one) X.evs.length X.evs.length 0 := rfl
  simp (disch := omega) only [A_xref09_part, wp, Nat.reduceAdd, Nat.reduceMul, Nat.reduceSub, gl, ml, thaw27 h27]
  generalize hB : thV X one = B at fin0
  refine W_loop (fun q e g => ∃ a : Nat, q = X.evs.length - a ∧ a ≤ X.evs.length ∧ e 1 = .ptr (matC X.evs.length A) ∧ e 2 = .b one ∧ e 3 = .mp 0 0 ∧ e 7 = .mp 6 0 ∧ e 8 = .i .i64 a ∧ g.hp 0 = some (.cells (grC X) false) ∧ g.hp 6 = some (.cells (matC X.evs.length (stM (fun x y => x && y) A B X.evs.length a 0)) false) ∧ 6 < g.nx) X.evs.length ?_ ?_
  · refine ⟨0, rfl, Nat.zero_le _, ?_⟩
    simp (disch := omega) only [wp, Nat.reduceAdd, Nat.reduceMul, Nat.reduceSub]
    exact ⟨rfl, by rw [stM_0], by first | omega | (dsimp only; omega)⟩
  · rintro q e g ⟨a, rfl, ha, e1, e2, e3, e7, e8, hg, hm, hnx⟩
    by_cases ha' : a < X.evs.length
    · have ha1 : (a : Int) < X.evs.length := by omega
      have hwa := succ_wrap (k := a) (by omega)
      simp (disch := omega) only [wp, Nat.reduceAdd, Nat.reduceMul, Nat.reduceSub, gl, ml, e1, e2, e3, e7, e8, hg, hm, ha1]
      refine W_loop (fun q e g => ∃ b : Nat, q = X.evs.length - b ∧ b ≤ X.evs.length ∧ e 1 = .ptr (matC X.evs.length A) ∧ e 2 = .b one ∧ e 3 = .mp 0 0 ∧ e 7 = .mp 6 0 ∧ e 8 = .i .i64 a ∧ e 9 = .i .i64 b ∧ g.hp 0 = some (.cells (grC X) false) ∧ g.hp 6 = some (.cells (matC X.evs.length (stM (fun x y => x && y) A B X.evs.length a b)) false) ∧ 6 < g.nx) X.evs.length ?_ ?_
      · refine ⟨0, rfl, Nat.zero_le _, ?_⟩
        simp (disch := omega) only [wp, Nat.reduceAdd, Nat.reduceMul, Nat.reduceSub, e1, e2, e3, e7, e8]
        exact ⟨rfl, hg, hm, by first | omega | (dsimp only; omega)⟩
      · rintro q e g ⟨b, rfl, hb, e1, e2, e3, e7, e8, e9, hg, hm, hnx⟩
        by_cases hb' : b < X.evs.length
        · have hb1 : (b : Int) < X.evs.length := by omega
          have hwb := succ_wrap (k := b) (by omega)
          have tA := ev_th_at ha'
          have tB := ev_th_at hb'
          have dA : (List.drop (a * 6) (evsC X.evs)).length = X.evs.length * 6 - a * 6 := by rw [List.length_drop, evsC_len]
          have dB : (List.drop (b * 6) (evsC X.evs)).length = X.evs.length * 6 - b * 6 := by rw [List.length_drop, evsC_len]
          have hv : B a b = (((X.evs.getD a ev0).th == (X.evs.getD b ev0).th) == one) := by rw [← hB]; rfl
          have hs := stM_succ (fun x y => x && y) A B X.evs.length a b
          have hset := fun x => matC_set (n := X.evs.length) (M := stM (fun x y => x && y) A B X.evs.length a b) (a := a) (b := b) (x := x) (by omega)
          generalize (X.evs.getD a ev0).th = ta at tA hv
          generalize (X.evs.getD b ev0).th = tb at tB hv
          have fin : ∀ x, x = (A a b && B a b) → X.evs.length - (b + 1) < X.evs.length - b ∧ upd2 (stM (fun x y => x && y) A B X.evs.length a b) a b x = stM (fun x y => x && y) A B X.evs.length a (b + 1) := fun x hx => ⟨by omega, by rw [hx]; exact hs⟩
          cases c0 : A a b
          case false =>
            simp (disch := omega) only [wp, Nat.reduceAdd, Nat.reduceMul, Nat.reduceSub, gl, ml, e1, e2, e3, e7, e8, e9, hg, hm, ha1, hb1, tA, tB, dA, dB, c0, hset, hwb]
            obtain ⟨f1, f2⟩ := fin false (by rw [c0]; rfl)
            exact ⟨_, f1, b + 1, rfl, by omega, rfl, by rw [f2], by first | omega | (dsimp only; omega)⟩
          simp (disch := omega) only [wp, Nat.reduceAdd, Nat.reduceMul, Nat.reduceSub, gl, ml, e1, e2, e3, e7, e8, e9, hg, hm, ha1, hb1, tA, tB, dA, dB, c0, hset, hwb]
          obtain ⟨f1, f2⟩ := fin ((ta == tb) == one) (by rw [c0, hv]; rfl)
          exact ⟨_, f1, b + 1, rfl, by omega, rfl, by rw [f2], by first | omega | (dsimp only; omega)⟩
        · obtain rfl : b = X.evs.length := by omega
          have hb1 : ¬ ((X.evs.length : Int) < X.evs.length) := by omega
          simp (disch := omega) only [wp, Nat.reduceAdd, Nat.reduceMul, Nat.reduceSub, gl, ml, e1, e2, e3, e7, e8, e9, hg, hm, hb1, hwa]
          exact ⟨X.evs.length - (a + 1), by omega, a + 1, rfl, by omega, rfl, by rw [stM_row], by first | omega | (dsimp only; omega)⟩
    · obtain rfl : a = X.evs.length := by omega
      have ha1 : ¬ ((X.evs.length : Int) < X.evs.length) := by omega
      simp (disch := omega) only [wp, Nat.reduceAdd, Nat.reduceMul, Nat.reduceSub, gl, ml, e1, e2, e3, e7, e8, hg, hm, ha1, fin0]
      exact ⟨_, rfl, hm⟩
set_option maxRecDepth 100000 in
theorem sp_mInner (h74 : F 74 = some A_xref09_Inner) (h85 : F 85 = some A_xref09_part) (h27 : F 27 = some A_xref01_New) {X : Gr} (hn : X.evs.length ≤ 40) (A : Mx) : pureS F 74 [.agg (grC X), .ptr (matC X.evs.length A)] = some (.ptr (matC X.evs.length (prtM X true A))) := by
  refine pure_of h74 ?_
  simp (disch := omega) only [A_xref09_Inner, wp, Nat.reduceAdd, Nat.reduceMul, Nat.reduceSub, gl, sp_mpart h85 h27 hn]
set_option maxRecDepth 100000 in
theorem sp_mOuter (h75 : F 75 = some A_xref09_Outer) (h85 : F 85 = some A_xref09_part) (h27 : F 27 = some A_xref01_New) {X : Gr} (hn : X.evs.length ≤ 40) (A : Mx) : pureS F 75 [.agg (grC X), .ptr (matC X.evs.length A)] = some (.ptr (matC X.evs.length (prtM X false A))) := by
  refine pure_of h75 ?_
  simp (disch := omega) only [A_xref09_Outer, wp, Nat.reduceAdd, Nat.reduceMul, Nat.reduceSub, gl, sp_mpart h85 h27 hn]
end Go.Ab
end
section
set_option linter.unusedVariables false
set_option linter.unusedSimpArgs false
namespace Go.Ab
variable {F : Funs}
theorem GraphOk.nOf {X : Gr} (h : GraphOk X) : nOf X = X.evs.length := by
  have := h.n40
  unfold Go.Ab.nOf clamp; omega
theorem hb_newM {n : Nat} (hn : n ≤ 40) (L : List (Int × Int)) {a b : Nat} (ha : a < n) (hb' : b < n) : hb (newR n L) a b = anyM L a b := by
  rw [hb_new hn, decide_eq_true ha, decide_eq_true hb', Bool.true_and, Bool.true_and]; rfl
theorem sameL {n : Nat} (hn : n ≤ 40) {L L' : List (Int × Int)} (h : ∀ a b : Nat, a < n → b < n → (((a : Int), (b : Int)) ∈ L ↔ ((a : Int), (b : Int)) ∈ L')) {a b : Nat} (ha : a < n) (hb' : b < n) : anyM L a b = hb (newR n L') a b := by
  rw [hb_newM hn _ ha hb', Bool.eq_iff_iff, anyM_mem, anyM_mem]
  exact h a b ha hb'
theorem aft_spec (w : Int) (c : List Int) : ∀ k, k ≤ c.length → (∀ b, b ∈ (aft w (c.take k)).1 ↔ ∃ i m, i < m ∧ m < k ∧ c.getD i 0 = w ∧ c.getD m 0 = b) ∧ ((aft w (c.take k)).2 = true ↔ ∃ i, i < k ∧ c.getD i 0 = w) := by
  intro k
  induction k with
  | zero => intro _; constructor
            · intro b; simp [aft]
            · simp [aft]
  | succ k ih =>
    intro hk
    obtain ⟨h1, h2⟩ := ih (by omega)
    rw [aft_take (by omega)]
    unfold aftS
    constructor
    · intro b
      simp only
      cases hm : (aft w (c.take k)).2 with
      | true =>
        obtain ⟨i0, hi0, hw⟩ := h2.1 hm
        rw [if_pos rfl, List.mem_append, h1 b, List.mem_singleton]
        constructor
        · rintro (⟨i, m, him, hmk, ha, hb'⟩ | rfl)
          · exact ⟨i, m, him, by omega, ha, hb'⟩
          · exact ⟨i0, k, hi0, by omega, hw, rfl⟩
        · rintro ⟨i, m, him, hmk, ha, hb'⟩
          by_cases hmk' : m = k
          · right; subst hmk'; exact hb'.symm
          · left; exact ⟨i, m, him, by omega, ha, hb'⟩
      | false =>
        rw [if_neg (by simp), h1 b]
        constructor
        · rintro ⟨i, m, him, hmk, ha, hb'⟩; exact ⟨i, m, him, by omega, ha, hb'⟩
        · rintro ⟨i, m, him, hmk, ha, hb'⟩
          by_cases hmk' : m = k
          · have := h2.2 ⟨i, by omega, ha⟩
            rw [hm] at this; cases this
          · exact ⟨i, m, him, by omega, ha, hb'⟩
    · simp only [Bool.or_eq_true, beq_iff_eq, h2]
      constructor
      · rintro (⟨i, hi, hw⟩ | hw)
        · exact ⟨i, by omega, hw⟩
        · exact ⟨k, by omega, hw⟩
      · rintro ⟨i, hi, hw⟩
        by_cases hik : i = k
        · right; subst hik; exact hw
        · left; exact ⟨i, by omega, hw⟩
theorem mem_aft {w : Int} {c : List Int} {b : Int} : b ∈ (aft w c).1 ↔ ∃ i m, i < m ∧ m < c.length ∧ c.getD i 0 = w ∧ c.getD m 0 = b := by
  have := (aft_spec w c c.length (Nat.le_refl _)).1 b
  rwa [List.take_length] at this
theorem mem_beh {a w x y : Int} {co : List (List Int)} : (x, y) ∈ behL a w co ↔ x = a ∧ ∃ j i m, j < co.length ∧ i < m ∧ m < (co.getD j []).length ∧ (co.getD j []).getD i 0 = w ∧ (co.getD j []).getD m 0 = y := by
  unfold behL
  simp only [List.mem_flatMap, List.mem_map, Prod.mk.injEq]
  constructor
  · rintro ⟨c, hc, z, hz, rfl, rfl⟩
    obtain ⟨j, hj, rfl⟩ := List.getElem_of_mem hc
    obtain ⟨i, m, h1, h2, h3, h4⟩ := mem_aft.1 hz
    have e : co.getD j [] = co[j] := by rw [List.getD_eq_getElem?_getD, List.getElem?_eq_getElem hj]; rfl
    exact ⟨rfl, j, i, m, hj, h1, by rw [e]; exact h2, by rw [e]; exact h3, by rw [e]; exact h4⟩
  · rintro ⟨rfl, j, i, m, hj, h1, h2, h3, h4⟩
    have e : co.getD j [] = co[j] := by rw [List.getD_eq_getElem?_getD, List.getElem?_eq_getElem hj]; rfl
    rw [e] at h2 h3 h4
    exact ⟨co[j], List.getElem_mem hj, y, mem_aft.2 ⟨i, m, h1, h2, h3, h4⟩, rfl, rfl⟩
theorem mem_coX {X : Gr} {x y : Int} : (x, y) ∈ coX X X.co.length ↔ ∃ j i m, j < X.co.length ∧ i < m ∧ m < (X.co.getD j []).length ∧ (X.co.getD j []).getD i 0 = x ∧ (X.co.getD j []).getD m 0 = y := by
  unfold coX coJ coI
  simp only [List.mem_flatMap, List.mem_range]
  constructor
  · rintro ⟨j, hj, i, hi, m, hm, h⟩
    by_cases him : i < m
    · rw [if_pos him, List.mem_singleton, Prod.mk.injEq] at h
      exact ⟨j, i, m, hj, him, hm, h.1.symm, h.2.symm⟩
    · rw [if_neg him] at h; cases h
  · rintro ⟨j, i, m, hj, him, hm, h1, h2⟩
    exact ⟨j, hj, i, by omega, m, hm, by rw [if_pos him, h1, h2]; exact List.mem_singleton.2 rfl⟩
section
variable {X : Gr} (h : GraphOk X)
include h
theorem GraphOk.rfr (i : Nat) (hi : i < X.evs.length) : (0 ≤ X.rf.getD i 0 ↔ (X.evs.getD i ev0).kd = 1) ∧ X.rf.getD i 0 < X.evs.length := by
  obtain ⟨h1, h2⟩ := h.rf i hi
  by_cases hk : (X.evs.getD i ev0).kd = 1
  · obtain ⟨h3, h4, _⟩ := h2 hk
    exact ⟨⟨fun _ => hk, fun _ => h3⟩, h4⟩
  · have := h1 hk
    exact ⟨⟨fun h => by omega, fun h => absurd h hk⟩, by omega⟩
theorem GraphOk.cor (j : Nat) (hj : j < X.co.length) (i : Nat) (hi : i < (X.co.getD j []).length) : 0 ≤ (X.co.getD j []).getD i 0 ∧ (X.co.getD j []).getD i 0 < X.evs.length ∧ (X.evs.getD ((X.co.getD j []).getD i 0).toNat ev0).kd = 2 := by
  obtain ⟨h1, h2, h3, _⟩ := (h.co j hj).wr i hi
  exact ⟨h1, h2, h3⟩
theorem mem_rfL {x y : Int} : (x, y) ∈ rfL X X.rf.length ↔ ∃ i : Nat, i < X.evs.length ∧ (X.evs.getD i ev0).kd = 1 ∧ x = X.rf.getD i 0 ∧ y = i := by
  have hl := h.rfl
  unfold rfL
  simp only [List.mem_flatMap, List.mem_range]
  constructor
  · rintro ⟨i, hi, hh⟩
    by_cases h0 : 0 ≤ X.rf.getD i 0
    · rw [if_pos h0, List.mem_singleton, Prod.mk.injEq] at hh
      exact ⟨i, by omega, (h.rfr i (by omega)).1.1 h0, hh.1, hh.2⟩
    · rw [if_neg h0] at hh; cases hh
  · rintro ⟨i, hi, hk, rfl, rfl⟩
    exact ⟨i, by omega, by rw [if_pos ((h.rfr i hi).1.2 hk)]; exact List.mem_singleton.2 rfl⟩
theorem mem_rfE {x y : Int} : (x, y) ∈ pairsE rfS X X.evs.length ↔ ∃ i : Nat, i < X.evs.length ∧ (X.evs.getD i ev0).kd = 1 ∧ x = X.rf.getD i 0 ∧ y = i := by
  have hl := h.rfl
  unfold pairsE rfS
  simp only [List.mem_flatMap, List.mem_range]
  constructor
  · rintro ⟨i, hi, hh⟩
    by_cases hk : (X.evs.getD i ev0).kd = 1
    · rw [if_pos hk, List.mem_singleton, Prod.mk.injEq] at hh
      rw [wOf, if_pos (by omega)] at hh
      exact ⟨i, hi, hk, hh.1, hh.2⟩
    · rw [if_neg hk] at hh; cases hh
  · rintro ⟨i, hi, hk, rfl, rfl⟩
    refine ⟨i, hi, ?_⟩
    rw [if_pos hk, wOf, if_pos (by omega)]; exact List.mem_singleton.2 rfl
theorem mem_coE {x y : Int} : (x, y) ∈ pairsE (coS X.co) X X.evs.length ↔ (x, y) ∈ coX X X.co.length := by
  rw [mem_coX]
  unfold pairsE coS
  simp only [List.mem_flatMap, List.mem_range]
  constructor
  · rintro ⟨i, hi, hh⟩
    by_cases hk : (X.evs.getD i ev0).kd = 2
    · rw [if_pos hk] at hh
      obtain ⟨rfl, j, a, m, h1, h2, h3, h4, h5⟩ := mem_beh.1 hh
      exact ⟨j, a, m, h1, h2, h3, h4, h5⟩
    · rw [if_neg hk] at hh; cases hh
  · rintro ⟨j, a, m, h1, h2, h3, h4, h5⟩
    obtain ⟨g1, g2, g3⟩ := h.cor j h1 a (by omega)
    rw [h4] at g1 g2 g3
    refine ⟨x.toNat, by omega, ?_⟩
    rw [if_pos g3]
    exact mem_beh.2 ⟨by omega, j, a, m, h1, h2, h3, by omega, h5⟩
theorem mem_frE {x y : Int} : (x, y) ∈ pairsE (frS X.co) X X.evs.length ↔ ∃ w, (w, x) ∈ rfL X X.rf.length ∧ (w, y) ∈ coX X X.co.length := by
  have hl := h.rfl
  unfold pairsE frS
  simp only [List.mem_flatMap, List.mem_range, mem_rfL h]
  constructor
  · rintro ⟨i, hi, hh⟩
    by_cases hk : (X.evs.getD i ev0).kd = 1
    · rw [if_pos hk] at hh
      obtain ⟨rfl, j, a, m, h1, h2, h3, h4, h5⟩ := mem_beh.1 hh
      rw [wOf, if_pos (by omega)] at h4
      exact ⟨X.rf.getD i 0, ⟨i, hi, hk, rfl, rfl⟩, mem_coX.2 ⟨j, a, m, h1, h2, h3, h4, h5⟩⟩
    · rw [if_neg hk] at hh; cases hh
  · rintro ⟨w, ⟨i, hi, hk, rfl, rfl⟩, hc⟩
    obtain ⟨j, a, m, h1, h2, h3, h4, h5⟩ := mem_coX.1 hc
    refine ⟨i, hi, ?_⟩
    rw [if_pos hk, wOf, if_pos (by omega)]
    exact mem_beh.2 ⟨rfl, j, a, m, h1, h2, h3, h4, h5⟩
theorem rf_get {a b : Nat} (ha : a < X.evs.length) (hb' : b < X.evs.length) : anyM (rfL X X.rf.length) a b = hb (relE rfS X) a b := by
  unfold relE; rw [h.nOf]
  exact sameL h.n40 (fun a b _ _ => by rw [mem_rfL h, mem_rfE h]) ha hb'
theorem co_get {a b : Nat} (ha : a < X.evs.length) (hb' : b < X.evs.length) : anyM (coX X X.co.length) a b = hb (relE (coS X.co) X) a b := by
  unfold relE; rw [h.nOf]
  exact sameL h.n40 (fun a b _ _ => (mem_coE h).symm) ha hb'
theorem fr_get {a b : Nat} (ha : a < X.evs.length) (hb' : b < X.evs.length) : frM X.evs.length (anyM (rfL X X.rf.length)) (anyM (coX X X.co.length)) a b = hb (relE (frS X.co) X) a b := by
  unfold relE; rw [h.nOf, hb_newM h.n40 _ ha hb', Bool.eq_iff_iff, anyM_mem, mem_frE h]
  unfold frM
  rw [thM_get _ _ _ _ _ _ hb', decide_eq_true ha, Bool.true_and, List.any_eq_true]
  constructor
  · rintro ⟨c, hc, hh⟩
    rw [mback_get _ _ _ _ ha (List.mem_range.1 hc), Bool.and_eq_true, anyM_mem, anyM_mem] at hh
    exact ⟨c, hh.1, hh.2⟩
  · rintro ⟨w, h1, h2⟩
    obtain ⟨i, hi, hk, e1, e2⟩ := (mem_rfL h).1 h1
    have h3 := (h.rfr i hi).1.2 hk
    have h4 := (h.rfr i hi).2
    have hw : ((w.toNat : Nat) : Int) = w := by omega
    refine ⟨w.toNat, List.mem_range.2 (by omega), ?_⟩
    rw [mback_get _ _ _ _ ha (by omega), Bool.and_eq_true, anyM_mem, anyM_mem, hw]
    exact ⟨h1, h2⟩
end
end Go.Ab
end
section
namespace Go.Ab
def A_xlaw09_same : AFun := { res := [.t 4], body := (.seq (.reg false [{ dst := some 4, op := .mv (.c (.b false)) }])
 (.seq (.reg true [{ dst := some 5, op := .mv (.t 0) },
  { dst := some 6, op := .eqn true (.t 5) (.c (.nilp)) },
  { dst := some 7, op := .mv (.t 6) },
  { dst := some 8, op := .mv (.t 0), grd := some (7, true) },
  { dst := some 9, op := .call .pure (.c (.fn 17 [] [])) [.t 8], grd := some (7, true), pre := [] },
  { dst := some 10, op := .mv (.t 1), grd := some (7, true) },
  { dst := some 11, op := .nilck (.t 10), grd := some (7, true) },
  { dst := some 12, op := .fa 0 (.t 11), grd := some (7, true) },
  { dst := some 13, op := .ld none (.t 12), grd := some (7, true), pre := [] },
  { dst := some 14, op := .bin .eql (.t 9) (.t 13), grd := some (7, true) },
  { dst := some 15, op := .pick (.t 7) (.t 14) (.c (.b false)) },
  { dst := some 16, op := .mv (.t 15) },
  { dst := some 17, op := .mv (.t 0), grd := some (16, true) },
  { dst := some 18, op := .call .pure (.c (.fn 15 [] [])) [.t 17], grd := some (16, true), pre := [] },
  { dst := some 19, op := .mv (.t 1), grd := some (16, true) },
  { dst := some 20, op := .call .pure (.c (.fn 56 [] [])) [.t 19], grd := some (16, true), pre := [] },
  { dst := some 21, op := .call .pure (.c (.fn 55 [] [])) [.t 18, .t 20], grd := some (16, true), pre := [] },
  { dst := some 22, op := .pick (.t 16) (.t 21) (.c (.b false)) },
  { dst := some 4, op := .mv (.t 22) }])
 .ret)) }
end Go.Ab
end
section
set_option linter.unusedVariables false
set_option linter.unusedSimpArgs false
namespace Go.Ab
variable {F : Funs}
theorem partR_get {X : Gr} {so : Ev → Ev → Bool} {n : Nat} {R : Rw} (hN : nOf X = X.evs.length) (hR : Wf n R) (hn : n = X.evs.length) {a b : Nat} (ha : a < X.evs.length) (hb' : b < X.evs.length) : hb (partR so X n R) a b = (hb R a b && so (X.evs.getD a ev0) (X.evs.getD b ev0)) := by
  have h40 := nOf_le X
  unfold partR
  rw [hN] at h40 ⊢
  rw [hb_newM h40 _ ha hb', Bool.eq_iff_iff, anyM_mem, List.mem_filter, Bool.and_eq_true]
  have hok : okP so X ((a : Int), (b : Int)) = so (X.evs.getD a ev0) (X.evs.getD b ev0) := by
    unfold okP
    have h1 : ((a : Nat) : Int) < X.evs.length := by omega
    have h2 : ((b : Nat) : Int) < X.evs.length := by omega
    simp only [h1, h2, decide_true, Bool.true_and, Int.toNat_natCast]
  rw [hok]
  constructor
  · rintro ⟨hp, hs⟩
    obtain ⟨x, y, he, hh⟩ := mem_pairsR.1 hp
    injection he with e1 e2
    have e1 : a = x := by omega
    have e2 : b = y := by omega
    subst e1 e2
    rw [hN_wf hR] at hh
    exact ⟨hh, hs⟩
  · rintro ⟨hh, hs⟩
    exact ⟨mem_pairsR.2 ⟨a, b, rfl, by rw [hN_wf hR]; exact hh⟩, hs⟩
section
variable {X : Gr} (h : GraphOk X)
include h
theorem wf_E (stp) : Wf X.evs.length (relE stp X) := by unfold relE; rw [h.nOf]; exact wf_new h.n40 _
theorem th_ge (i : Nat) (hi : i < X.evs.length) : (((i : Int) < X.locs) → thI X i = 0) ∧ (¬ ((i : Int) < X.locs) → 1 ≤ thI X i) := by
  obtain ⟨h1, h2⟩ := h.ev i hi
  exact ⟨fun hl => (h1 hl).1, fun hl => (h2 hl).1⟩
theorem po_get {a b : Nat} (ha : a < X.evs.length) (hb' : b < X.evs.length) : mpoM X a b = hb (poR X) a b := by
  unfold poR; rw [h.nOf, hb_newM h.n40 _ ha hb', Bool.eq_iff_iff, anyM_mem]
  have ga := th_ge h a ha
  have gb := th_ge h b hb'
  have hmem : ((a : Int), (b : Int)) ∈ poK X X.evs.length ↔ poB a b (X.evs.getD a ev0) (X.evs.getD b ev0) = true := by
    simp only [poK, poRow, List.mem_flatMap, List.mem_map, List.mem_filter, List.mem_range]
    constructor
    · rintro ⟨x, hx, y, ⟨hy, hp⟩, he⟩
      injection he with e1 e2
      have e1 : x = a := by omega
      have e2 : y = b := by omega
      subst e1 e2
      exact hp
    · intro hp; exact ⟨a, ha, b, ⟨hb', hp⟩, rfl⟩
  rw [hmem]
  unfold mpoM stU poV poB
  unfold thI at *
  generalize (X.evs.getD a ev0).th = ta at *
  generalize (X.evs.getD b ev0).th = tb at *
  by_cases hab : a < b
  · rw [if_pos (.inl ⟨ha, hab, hb'⟩)]
    simp only [Bool.or_eq_true, Bool.and_eq_true, beq_iff_eq, decide_eq_true_eq, bne_iff_ne, ne_eq]
    by_cases l1 : (a : Int) < X.locs <;> by_cases l2 : (b : Int) < X.locs
    · have := ga.1 l1; have := gb.1 l2; omega
    · have := ga.1 l1; have := gb.2 l2; omega
    · omega
    · have := ga.2 l1; have := gb.2 l2; omega
  · rw [if_neg (by omega)]
    simp only [Bool.or_eq_true, Bool.and_eq_true, beq_iff_eq, decide_eq_true_eq, bne_iff_ne, ne_eq]
    by_cases l1 : (a : Int) < X.locs <;> by_cases l2 : (b : Int) < X.locs
    · have := ga.1 l1; have := gb.1 l2; simp; omega
    · omega
    · have := ga.2 l1; have := gb.1 l2; simp; omega
    · have := ga.2 l1; have := gb.2 l2; simp; omega
theorem wf_po : Wf X.evs.length (poR X) := by unfold poR; rw [h.nOf]; exact wf_new h.n40 _
theorem loc_get {a b : Nat} (ha : a < X.evs.length) (hb' : b < X.evs.length) : locM X a b = hb (partR locP X X.evs.length (poR X)) a b := by
  rw [partR_get h.nOf (wf_po h) rfl ha hb', ← po_get h ha hb']
  unfold locM stK
  rw [if_pos (.inl ⟨ha, hb'⟩)]
  congr 1
  unfold locV locP
  rw [Bool.and_assoc]
end
theorem pairsR_len40 {n : Nat} (hn : n ≤ 40) (R : Rw) : (pairsR n R).length < 9000000000000000000 := by
  have := pairsR_len hn R; omega
set_option maxRecDepth 100000 in
theorem sp_sameG {f : Nat} (hf : F f = some A_xlaw09_same) (h55 : F 55 = some A_xref01_SamePairs) (h56 : F 56 = some A_xref01_R_Pairs) (pr : Pk_rel F) {n : Nat} (hn : n ≤ 40) {M : Mx} {R : Rw} (hM : ∀ a b, a < n → b < n → M a b = hb R a b) : pureS F f [.ptr (relC n R), .ptr (matC n M)] = some (.b true) := by
  refine pure_of hf ?_
  have h1 := sp_mpairs h56 hn M R (same_of hM)
  have h2 := sp_samePairs h55 (pairsR n R) (pairsR_len40 hn R) .non .non
  simp (disch := omega) only [A_xlaw09_same, wp, Nat.reduceAdd, Nat.reduceMul, Nat.reduceSub, gl, rl, ml, sp_len pr, sp_pairs pr hn, h1, h2]
end Go.Ab
end
section
set_option linter.unusedVariables false
set_option linter.unusedSimpArgs false
namespace Go.Ab
variable {F : Funs}
def setL (X : Gr) (p : Ev → Bool) (k : Nat) : List (Int × Int) := (List.range k).flatMap fun (i : Nat) => if p (X.evs.getD i ev0) then [((i : Int), (i : Int))] else []
theorem setL_succ (X p k) : setL X p (k + 1) = setL X p k ++ (if p (X.evs.getD k ev0) then [((k : Int), (k : Int))] else []) := by simp [setL, List.range_succ]
theorem setL_len (X p k) : (setL X p k).length ≤ k := by
  induction k with
  | zero => simp [setL]
  | succ k ih => rw [setL_succ, List.length_append]; split <;> simp <;> omega
theorem mem_setL {X : Gr} {p : Ev → Bool} {k a b : Nat} : ((a : Int), (b : Int)) ∈ setL X p k ↔ a = b ∧ a < k ∧ p (X.evs.getD a ev0) = true := by
  unfold setL
  simp only [List.mem_flatMap, List.mem_range]
  constructor
  · rintro ⟨i, hi, h⟩
    by_cases hp : p (X.evs.getD i ev0) = true
    · rw [if_pos hp, List.mem_singleton, Prod.mk.injEq] at h
      have e1 : a = i := by omega
      have e2 : b = i := by omega
      subst e1 e2
      exact ⟨rfl, hi, hp⟩
    · rw [if_neg hp] at h; cases h
  · rintro ⟨rfl, hk, hp⟩
    exact ⟨a, hk, by rw [if_pos hp]; exact List.mem_singleton.2 rfl⟩
def setR (X : Gr) (p : Ev → Bool) : Rw := newR (nOf X) (setL X p X.evs.length)
def kindK (X : Gr) (q : Ev → Bool) (k : Nat) : Mx := fun a b => decide (a = b) && (decide (a < k) && q (X.evs.getD a ev0))
theorem kindK_succ (X q k) : upd2 (kindK X q k) k k (q (X.evs.getD k ev0)) = kindK X q (k + 1) := by
  funext i j
  unfold upd2 kindK
  by_cases h : i = k ∧ j = k
  · obtain ⟨rfl, rfl⟩ := h
    rw [if_pos ⟨rfl, rfl⟩]; simp
  · rw [if_neg h]
    by_cases hij : i = j
    · have : decide (i < k) = decide (i < k + 1) := by rw [decide_eq_decide]; omega
      rw [this]
    · rw [decide_eq_false hij]; rfl
theorem kindK_0 (X q) : kindK X q 0 = fun _ _ => false := by funext i j; simp [kindK]
section
variable {X : Gr} (h : GraphOk X)
include h
theorem EqN.set {p q : Ev → Bool} (hq : ∀ i, i < X.evs.length → p (X.evs.getD i ev0) = q (X.evs.getD i ev0)) : EqN X.evs.length (kindK X q X.evs.length) (setR X p) := by
  unfold setR
  rw [h.nOf]
  refine ⟨wf_new h.n40 _, fun a b ha hb' => ?_⟩
  rw [hb_newM h.n40 _ ha hb', Bool.eq_iff_iff, anyM_mem, mem_setL]
  unfold kindK
  simp only [Bool.and_eq_true, decide_eq_true_eq, hq a ha]
theorem ev_kinds (i : Nat) (hi : i < X.evs.length) : ((X.evs.getD i ev0).kd = 1 ∧ ((X.evs.getD i ev0).md = 0 ∨ (X.evs.getD i ev0).md = 1)) ∨ ((X.evs.getD i ev0).kd = 2 ∧ ((X.evs.getD i ev0).md = 0 ∨ (X.evs.getD i ev0).md = 2)) ∨ ((X.evs.getD i ev0).kd = 3 ∧ 1 ≤ (X.evs.getD i ev0).md ∧ (X.evs.getD i ev0).md ≤ 4) := by
  obtain ⟨h1, h2⟩ := h.ev i hi
  by_cases hl : (i : Int) < X.locs
  · obtain ⟨_, h3, h4, _⟩ := h1 hl
    exact .inr (.inl ⟨h3, .inl h4⟩)
  · obtain ⟨_, _, _, h3⟩ := h2 hl
    rcases h3 with ⟨h4, _, _, h5⟩ | ⟨h4, _, _, h5⟩ | ⟨h4, h5, h6, _⟩
    · exact .inl ⟨h4, h5⟩
    · exact .inr (.inl ⟨h4, h5⟩)
    · exact .inr (.inr ⟨h4, h5, h6⟩)
theorem eq_rf : EqN X.evs.length (anyM (rfL X X.rf.length)) (relE rfS X) := ⟨wf_E h _, fun _ _ ha hb' => rf_get h ha hb'⟩
theorem eq_co : EqN X.evs.length (anyM (coX X X.co.length)) (relE (coS X.co) X) := ⟨wf_E h _, fun _ _ ha hb' => co_get h ha hb'⟩
theorem eq_fr : EqN X.evs.length (frM X.evs.length (anyM (rfL X X.rf.length)) (anyM (coX X X.co.length))) (relE (frS X.co) X) := ⟨wf_E h _, fun _ _ ha hb' => fr_get h ha hb'⟩
theorem eq_po : EqN X.evs.length (mpoM X) (poR X) := ⟨wf_po h, fun _ _ ha hb' => po_get h ha hb'⟩
theorem wf_part (so : Ev → Ev → Bool) (n : Nat) (R : Rw) : Wf X.evs.length (partR so X n R) := by unfold partR; rw [h.nOf]; exact wf_new h.n40 _
theorem eq_loc : EqN X.evs.length (locM X) (partR locP X X.evs.length (poR X)) := ⟨wf_part h _ _ _, fun _ _ ha hb' => loc_get h ha hb'⟩
theorem eq_inner {A : Mx} {R : Rw} (k : EqN X.evs.length A R) : EqN X.evs.length (prtM X true A) (partR inner X X.evs.length R) :=
  ⟨wf_part h _ _ _, fun a b ha hb' => by
    rw [partR_get h.nOf k.1 rfl ha hb']
    unfold prtM
    rw [opM_get _ _ _ _ _ _ ha hb', k.2 a b ha hb']
    unfold thV thI inner
    cases ((X.evs.getD a ev0).th == (X.evs.getD b ev0).th) <;> rfl⟩
theorem eq_outer {A : Mx} {R : Rw} (k : EqN X.evs.length A R) : EqN X.evs.length (prtM X false A) (partR outer X X.evs.length R) :=
  ⟨wf_part h _ _ _, fun a b ha hb' => by
    rw [partR_get h.nOf k.1 rfl ha hb']
    unfold prtM
    rw [opM_get _ _ _ _ _ _ ha hb', k.2 a b ha hb']
    unfold thV thI outer bne
    cases ((X.evs.getD a ev0).th == (X.evs.getD b ev0).th) <;> rfl⟩
end
end Go.Ab
end
section
namespace Go.Ab
def A_sync_Hb : AFun := { res := [.t 2], body := (.seq (.reg false [{ dst := some 1, op := .box (.t 0) },
  { dst := some 2, op := .mv (.c (.nilp)) }])
 (.seq (.reg true [{ dst := some 3, op := .ld (some 8) (.t 1), pre := [] },
  { dst := some 4, op := .call .pure (.c (.fn 60 [] [])) [.t 3], pre := [] },
  { dst := some 5, op := .ld (some 8) (.t 1), pre := [] },
  { dst := some 6, op := .call .pure (.c (.fn 176 [] [])) [.t 5], pre := [] },
  { dst := some 7, op := .call .pure (.c (.fn 24 [] [])) [.t 4, .t 6], pre := [] },
  { dst := some 8, op := .call .pure (.c (.fn 12 [] [])) [.t 7], pre := [] },
  { dst := some 2, op := .mv (.t 8) }])
 .ret)) }
def A_sync_Release : AFun := { res := [.t 2], body := (.seq (.reg false [{ dst := some 1, op := .box (.t 0) },
  { dst := some 2, op := .mv (.c (.nilp)) }])
 (.seq (.reg true [{ dst := some 4, op := .ld (some 8) (.t 1), pre := [] },
  { dst := some 5, op := .bsl true 3 ([.i .i64 0, .i .i64 0, .i .i64 0]) [(0, 1, .c (.i .i64 2)), (1, 1, .c (.i .i64 3)), (2, 1, .c (.i .i64 4))], pre := [] },
  { dst := some 6, op := .call .pure (.c (.fn 178 [] [])) [.t 4, .c (.i .i64 3), .t 5], pre := [] },
  { dst := some 7, op := .ld (some 8) (.t 1), pre := [] },
  { dst := some 8, op := .call .pure (.c (.fn 60 [] [])) [.t 7], pre := [] },
  { dst := some 9, op := .bsl true 1 ([.nilp]) [(0, 1, .t 8)], pre := [] },
  { dst := some 10, op := .call .pure (.c (.fn 177 [] [])) [.t 6, .t 9], pre := [] },
  { dst := some 3, op := .mv (.t 10) }])
 (.seq (.reg true [{ dst := some 11, op := .ld (some 8) (.t 1), pre := [] },
  { dst := some 12, op := .bsl true 1 ([.i .i64 0]) [(0, 1, .c (.i .i64 2))], pre := [] },
  { dst := some 13, op := .call .pure (.c (.fn 178 [] [])) [.t 11, .c (.i .i64 2), .t 12], pre := [] },
  { dst := some 14, op := .mv (.t 3) },
  { dst := some 15, op := .call .pure (.c (.fn 24 [] [])) [.t 13, .t 14], pre := [] },
  { dst := some 16, op := .ld (some 8) (.t 1), pre := [] },
  { dst := some 17, op := .call .pure (.c (.fn 179 [] [])) [.t 16], pre := [] },
  { dst := some 18, op := .bsl true 1 ([.nilp]) [(0, 1, .t 17)], pre := [] },
  { dst := some 19, op := .call .pure (.c (.fn 177 [] [])) [.t 15, .t 18], pre := [] },
  { dst := some 2, op := .mv (.t 19) }])
 .ret))) }
def A_sync_Sw : AFun := { res := [.t 2], body := (.seq (.reg false [{ dst := some 1, op := .box (.t 0) },
  { dst := some 2, op := .mv (.c (.nilp)) }])
 (.seq (.reg false [{ dst := some 6, op := .ld (some 8) (.t 1) },
  { dst := some 7, op := .call .pure (.c (.fn 48 [] [])) [.t 6] },
  { dst := some 3, op := .mv (.t 7) }])
 (.seq (.reg true [{ dst := some 8, op := .ld (some 8) (.t 1), pre := [] },
  { dst := some 9, op := .mv (.t 3) },
  { dst := some 10, op := .call .pure (.c (.fn 39 [] [])) [.t 8, .t 9], pre := [] },
  { dst := some 11, op := .ld (some 8) (.t 1), pre := [] },
  { dst := some 12, op := .call .pure (.c (.fn 41 [] [])) [.t 11], pre := [] },
  { dst := some 13, op := .call .pure (.c (.fn 16 [] [])) [.t 12], pre := [] },
  { dst := some 14, op := .ld (some 8) (.t 1), pre := [] },
  { dst := some 15, op := .mv (.t 3) },
  { dst := some 16, op := .call .pure (.c (.fn 40 [] [])) [.t 14, .t 15], pre := [] },
  { dst := some 17, op := .bsl true 1 ([.nilp]) [(0, 1, .t 16)], pre := [] },
  { dst := some 18, op := .call .pure (.c (.fn 177 [] [])) [.t 13, .t 17], pre := [] },
  { dst := some 19, op := .call .pure (.c (.fn 24 [] [])) [.t 10, .t 18], pre := [] },
  { dst := some 4, op := .mv (.t 19) }])
 (.seq (.reg true [{ dst := some 20, op := .ld (some 8) (.t 1), pre := [] },
  { dst := some 21, op := .call .pure (.c (.fn 60 [] [])) [.t 20], pre := [] },
  { dst := some 22, op := .ld (some 8) (.t 1), pre := [] },
  { dst := some 23, op := .bsl true 3 ([.i .i64 0, .i .i64 0, .i .i64 0]) [(0, 1, .c (.i .i64 1)), (1, 1, .c (.i .i64 3)), (2, 1, .c (.i .i64 4))], pre := [] },
  { dst := some 24, op := .call .pure (.c (.fn 178 [] [])) [.t 22, .c (.i .i64 3), .t 23], pre := [] },
  { dst := some 25, op := .bsl true 1 ([.nilp]) [(0, 1, .t 24)], pre := [] },
  { dst := some 26, op := .call .pure (.c (.fn 177 [] [])) [.t 21, .t 25], pre := [] },
  { dst := some 5, op := .mv (.t 26) }])
 (.seq (.reg true [{ dst := some 27, op := .ld (some 8) (.t 1), pre := [] },
  { dst := some 28, op := .call .pure (.c (.fn 149 [] [])) [.t 27], pre := [] },
  { dst := some 29, op := .mv (.t 4) },
  { dst := some 30, op := .ld (some 8) (.t 1), pre := [] },
  { dst := some 31, op := .bsl true 1 ([.i .i64 0]) [(0, 1, .c (.i .i64 1))], pre := [] },
  { dst := some 32, op := .call .pure (.c (.fn 178 [] [])) [.t 30, .c (.i .i64 1), .t 31], pre := [] },
  { dst := some 33, op := .mv (.t 5) },
  { dst := some 34, op := .call .pure (.c (.fn 24 [] [])) [.t 32, .t 33], pre := [] },
  { dst := some 35, op := .bsl true 2 ([.nilp, .nilp]) [(0, 1, .t 29), (1, 1, .t 34)], pre := [] },
  { dst := some 36, op := .call .pure (.c (.fn 177 [] [])) [.t 28, .t 35], pre := [] },
  { dst := some 2, op := .mv (.t 36) }])
 .ret))))) }
def A_sync_then : AFun := { res := [.t 4], body := (.seq (.reg false [{ dst := some 4, op := .mv (.c (.nilp)) }])
 (.seq (.seq (.reg false [{ dst := some 7, op := .mv (.t 1) },
  { dst := some 8, op := .len (.t 7) },
  { dst := some 9, op := .mv (.c (.i .i64 0)) }])
 (.blk 0 (.loop (.seq (.reg false [{ dst := some 10, op := .bin .lss (.t 9) (.t 8) }])
 (.seq (.cond (.t 10) .skip
 (.ext 0))
 (.seq (.blk 1 (.seq (.reg false [{ dst := some 11, op := .ia 1 (.t 7) (.t 9) },
  { dst := some 12, op := .ld none (.t 11) },
  { dst := some 6, op := .mv (.t 12) }])
 (.reg false [{ dst := some 13, op := .mv (.t 0) },
  { dst := some 14, op := .mv (.t 6) },
  { dst := some 15, op := .call .pure (.c (.fn 23 [] [])) [.t 13, .t 14] },
  { dst := some 0, op := .mv (.t 15) }])))
 (.reg false [{ dst := some 16, op := .bin .add (.t 9) (.c (.i .i64 1)) },
  { dst := some 9, op := .mv (.t 16) }])))))))
 (.seq (.reg false [{ dst := some 17, op := .mv (.t 0) },
  { dst := some 4, op := .mv (.t 17) }])
 .ret))) }
def A_sync_set : AFun := { res := [.t 6], body := (.seq (.reg false [{ dst := some 3, op := .boxI (.t 0) },
  { dst := some 4, op := .boxI (.t 1) },
  { dst := some 5, op := .boxI (.t 2) },
  { dst := some 6, op := .mv (.c (.nilp)) }])
 (.seq (.reg false [{ dst := some 7, op := .ld (some 8) (.t 3) },
  { dst := some 8, op := .mkfn 229 [] [.t 5, .t 4] },
  { dst := some 9, op := .call .pure (.c (.fn 166 [] [])) [.t 7, .t 8] },
  { dst := some 6, op := .mv (.t 9) }])
 .ret)) }
def A_sync_Rs : AFun := { res := [.t 2], body := (.seq (.reg false [{ dst := some 1, op := .box (.t 0) },
  { dst := some 2, op := .mv (.c (.nilp)) }])
 (.seq (.reg true [{ dst := some 6, op := .ld (some 8) (.t 1), pre := [] },
  { dst := some 7, op := .call .pure (.c (.fn 178 [] [])) [.t 6, .c (.i .i64 2), .c (.sl [] 0 .rig)], pre := [] },
  { dst := some 8, op := .ld (some 8) (.t 1), pre := [] },
  { dst := some 9, op := .call .pure (.c (.fn 41 [] [])) [.t 8], pre := [] },
  { dst := some 3, op := .mv (.t 7) },
  { dst := some 4, op := .mv (.t 9) }])
 (.seq (.reg true [{ dst := some 10, op := .mv (.t 4) },
  { dst := some 11, op := .call .pure (.c (.fn 16 [] [])) [.t 10], pre := [] },
  { dst := some 12, op := .ld (some 8) (.t 1), pre := [] },
  { dst := some 13, op := .call .pure (.c (.fn 48 [] [])) [.t 12], pre := [] },
  { dst := some 14, op := .ld (some 8) (.t 1), pre := [] },
  { dst := some 15, op := .fa 4 (.t 1) },
  { dst := some 16, op := .ld none (.t 15), pre := [] },
  { dst := some 17, op := .call .pure (.c (.fn 81 [] [])) [.t 14, .t 16], pre := [] },
  { dst := some 18, op := .bsl true 2 ([.nilp, .nilp]) [(0, 1, .t 13), (1, 1, .t 17)], pre := [] },
  { dst := some 19, op := .call .pure (.c (.fn 177 [] [])) [.t 11, .t 18], pre := [] },
  { dst := some 5, op := .mv (.t 19) }])
 (.seq (.reg false [{ dst := some 20, op := .mv (.t 3) },
  { dst := some 21, op := .mv (.t 4) },
  { dst := some 22, op := .mv (.t 3) },
  { dst := some 23, op := .bsl true 2 ([.nilp, .nilp]) [(0, 1, .t 21), (1, 1, .t 22)] },
  { dst := some 24, op := .call .pure (.c (.fn 177 [] [])) [.t 20, .t 23] },
  { dst := some 25, op := .mv (.t 3) },
  { dst := some 26, op := .mv (.t 5) },
  { dst := some 27, op := .call .pure (.c (.fn 12 [] [])) [.t 26] },
  { dst := some 28, op := .call .pure (.c (.fn 16 [] [])) [.t 27] },
  { dst := some 29, op := .bsl true 1 ([.nilp]) [(0, 1, .t 28)] },
  { dst := some 30, op := .call .pure (.c (.fn 177 [] [])) [.t 25, .t 29] },
  { dst := some 31, op := .call .pure (.c (.fn 24 [] [])) [.t 24, .t 30] },
  { dst := some 2, op := .mv (.t 31) }])
 .ret)))) }
def A_sync_set_1 : AFun := { res := [.t 4], body := (.seq (.reg false [{ dst := some 3, op := .box (.t 0) },
  { dst := some 4, op := .mv (.c (.b false)) }])
 (.seq (.reg false [{ dst := some 8, op := .ld none (.t 1) },
  { dst := some 9, op := .len (.t 8) },
  { dst := some 10, op := .bin .eql (.t 9) (.c (.i .i64 0)) },
  { dst := some 5, op := .mv (.t 10) }])
 (.seq (.seq (.reg false [{ dst := some 11, op := .ld none (.t 1) },
  { dst := some 12, op := .len (.t 11) },
  { dst := some 13, op := .mv (.c (.i .i64 0)) }])
 (.blk 0 (.loop (.seq (.reg false [{ dst := some 14, op := .bin .lss (.t 13) (.t 12) }])
 (.seq (.cond (.t 14) .skip
 (.ext 0))
 (.seq (.blk 1 (.seq (.reg false [{ dst := some 15, op := .ia 1 (.t 11) (.t 13) },
  { dst := some 16, op := .ld none (.t 15) },
  { dst := some 7, op := .mv (.t 16) }])
 (.reg false [{ dst := some 17, op := .mv (.t 5) },
  { dst := some 18, op := .mv (.t 17) },
  { dst := some 19, op := .fa 2 (.t 3), grd := some (18, false) },
  { dst := some 20, op := .ld none (.t 19), grd := some (18, false) },
  { dst := some 21, op := .mv (.t 7), grd := some (18, false) },
  { dst := some 22, op := .bin .eql (.t 20) (.t 21), grd := some (18, false) },
  { dst := some 23, op := .pick (.t 18) (.c (.b true)) (.t 22) },
  { dst := some 5, op := .mv (.t 23) }])))
 (.reg false [{ dst := some 24, op := .bin .add (.t 13) (.c (.i .i64 1)) },
  { dst := some 13, op := .mv (.t 24) }])))))))
 (.seq (.reg false [{ dst := some 25, op := .fa 1 (.t 3) },
  { dst := some 26, op := .ld none (.t 25) },
  { dst := some 27, op := .ld none (.t 2) },
  { dst := some 28, op := .bin .eql (.t 26) (.t 27) },
  { dst := some 29, op := .mv (.t 28) },
  { dst := some 30, op := .mv (.t 5), grd := some (29, true) },
  { dst := some 31, op := .pick (.t 29) (.t 30) (.c (.b false)) },
  { dst := some 4, op := .mv (.t 31) }])
 .ret)))) }
structure Pk_sync (F : Funs) : Prop where
  sync_Hb : F 148 = some A_sync_Hb
  sync_Release : F 149 = some A_sync_Release
  sync_Sw : F 176 = some A_sync_Sw
  sync_then : F 177 = some A_sync_then
  sync_set : F 178 = some A_sync_set
  sync_Rs : F 179 = some A_sync_Rs
  sync_set_1 : F 229 = some A_sync_set_1
end Go.Ab
end
section
set_option linter.unusedVariables false
set_option linter.unusedSimpArgs false
namespace Go.Ab
variable {F : Funs}
theorem o_boxI {c : CS} {al : Nat → Bool} {lo id : Nat} {e : Env} {g : G} (x) : opE c al lo id (.boxI x) e g = vBoxI (x.ev e) g := rfl
noncomputable def bxiD (x : Bool) (cs : Option (List AV)) (g : G) : Option (AV × G) := if x then vMapL .ptr g cs else none
theorem vBoxI_S (v g) : vBoxI v g = bxiD ((cellsOf v).all one) (frzL (fun _ => none) depth (cellsOf v)) g := rfl
theorem bxiD_ok (cs g) : bxiD true cs g = vMapL .ptr g cs := rfl
theorem frzL_gr (hp) (X : Gr) : frzL hp depth (grC X) = some (grC X) := by
  show frzL hp (8 + 1) _ = _
  simp only [grC, frzL, frz]
set_option maxRecDepth 100000 in
set_option maxHeartbeats 4000000 in
theorem sp_setE (h166 : F 166 = some A_graph_Set) (h81 : F 81 = some A_graph_Of) (pr : Pk_rel F) {X : Gr} (hX : X.evs.length ≤ 1000) {fid : Nat} {caps : List AV} {p : Ev → Bool} (hp : ∀ e, pureS F fid (.agg (evC e) :: caps) = some (.b (p e)))
    (hc : ∀ hp, frzL hp depth caps = some caps) (hv : ∀ hp, caps.flatMap (vis hp depth) = []) : pureS F 166 [.agg (grC X), .fn fid [] caps] = some (.ptr (relC (nOf X) (setR X p))) := by
  refine pure_of h166 ?_
  simp (disch := omega) only [A_graph_Set, wp, Nat.reduceAdd, Nat.reduceMul, Nat.reduceSub, gl]
  refine W_loop (fun q e g => ∃ k t, q = X.evs.length - k ∧ k ≤ X.evs.length ∧ e 2 = .mp 0 0 ∧ e 5 = .sl (pairsC (setL X p k)) (setL X p k).length t ∧ e 6 = .mp 5 0 ∧ e 12 = .sl (evsC X.evs) X.evs.length .non ∧ e 13 = .i .i64 X.evs.length ∧ e 14 = .i .i64 k ∧ Live g 2 t ∧ g.hp 0 = some (.cells (grC X) false) ∧ g.hp 5 = some (.cells [.fn fid [] caps] false) ∧ 5 < g.nx) X.evs.length ?_ ?_
  · refine ⟨0, .rig, rfl, Nat.zero_le _, ?_⟩
    simp (disch := omega) only [wp, Nat.reduceAdd, Nat.reduceMul, Nat.reduceSub]
    exact ⟨by rfl, rfl, .inl rfl, by first | omega | (dsimp only; omega)⟩
  · rintro q e g ⟨k, t, rfl, hk, e2, e5, e6, e12, e13, e14, L, hg, hf, hnx⟩
    by_cases hk' : k < X.evs.length
    · have hk1 : (k : Int) < X.evs.length := by omega
      have hwk := succ_wrap (k := k) (by omega)
      have hev := ev_part hk'
      have hs := setL_succ X p k
      have hl := setL_len X p k
      generalize X.evs.getD k ev0 = ev at hev hs
      have hpe := hp ev
      generalize setL X p k = B at e5 hs hl
      cases hb : p ev with
      | true =>
        rw [hb] at hpe
        rw [hb, if_pos rfl] at hs
        rcases L with rfl | ⟨τ, rfl, hτ, hlt⟩
        · simp (disch := omega) only [wp, Nat.reduceAdd, Nat.reduceMul, Nat.reduceSub, gl, e2, e5, e6, e12, e13, e14, hg, hf, hk1, hev, hc, hv, hpe, pairsC_len, hwk]
          refine ⟨X.evs.length - (k + 1), by omega, k + 1, ?_⟩
          rw [hs, pairsC_app, pairsC_one, List.length_append]
          exact ⟨_, rfl, by omega, rfl, rfl, .inr ⟨_, rfl, upd_same _ _ _, by first | omega | (dsimp only; omega)⟩, by first | omega | (dsimp only; omega)⟩
        · have n0 : τ ≠ 0 := fun h => by rw [h, hg] at hτ; cases hτ
          have n5 : τ ≠ 5 := fun h => by rw [h, hf] at hτ; cases hτ
          simp (disch := omega) only [wp, Nat.reduceAdd, Nat.reduceMul, Nat.reduceSub, gl, e2, e5, e6, e12, e13, e14, hg, hf, hk1, hev, hc, hv, hpe, pairsC_len, hwk, hτ]
          refine ⟨X.evs.length - (k + 1), by omega, k + 1, ?_⟩
          rw [hs, pairsC_app, pairsC_one, List.length_append]
          exact ⟨_, rfl, by omega, rfl, rfl, .inr ⟨_, rfl, upd_same _ _ _, by first | omega | (dsimp only; omega)⟩, by first | omega | (dsimp only; omega)⟩
      | false =>
        rw [hb] at hpe
        rw [hb, if_neg (by simp), List.append_nil] at hs
        simp (disch := omega) only [wp, Nat.reduceAdd, Nat.reduceMul, Nat.reduceSub, gl, e2, e5, e6, e12, e13, e14, hg, hf, hk1, hev, hc, hv, hpe, hwk]
        refine ⟨X.evs.length - (k + 1), by omega, k + 1, t, rfl, by omega, by rw [hs], rfl, ?_, by first | omega | (dsimp only; omega)⟩
        rcases L with rfl | ⟨τ, rfl, hτ, hlt⟩
        · exact .inl rfl
        · exact .inr ⟨τ, rfl, by simp (disch := omega) only [upd_ne]; exact hτ, by first | omega | (dsimp only; omega)⟩
    · obtain rfl : k = X.evs.length := by omega
      have hk1 : ¬ ((X.evs.length : Int) < X.evs.length) := by omega
      have hl := setL_len X p X.evs.length
      have hof := sp_of h81 pr X (setL X p X.evs.length) .non (by omega)
      simp (disch := omega) only [wp, Nat.reduceAdd, Nat.reduceMul, Nat.reduceSub, gl, e2, e5, e6, e12, e13, e14, hg, hf, hk1, hof]
      rfl
def relsC (n : Nat) (l : List Rw) : List AV := l.map fun R => .ptr (relC n R)
def thenL (n : Nat) (R : Rw) (l : List Rw) : Rw := l.foldl (fun R S => thenR n R S) R
theorem rels_part {n : Nat} {l : List Rw} {k : Nat} (h : k < l.length) : part ((relsC n l).drop (k * 1)) 0 none = some (.ptr (relC n (l.getD k fun _ => 0))) := by
  simp only [part, relsC, List.getElem?_drop, Nat.mul_one, Nat.add_zero, List.getElem?_map, List.getElem?_eq_getElem h, Option.map_some, List.getD_eq_getElem?_getD, Option.getD_some]
end Go.Ab
end
section
set_option linter.unusedVariables false
set_option linter.unusedSimpArgs false
namespace Go.Ab
variable {F : Funs}
section
variable (X : Gr)
def locR : Rw := partR locP X (nOf X) (poR X)
def rfR : Rw := relE rfS X
end
structure SyncF (F : Funs) : Prop where
  ps : Pk_sync F
  pe : Pk_eco F
  pr : Pk_rel F
  po : F 60 = some A_graph_Po
  gof : F 81 = some A_graph_Of
  set : F 166 = some A_graph_Set
section
variable (S : SyncF F) {X : Gr} (hX : Few X)
include S hX
end
end Go.Ab
end
section
set_option linter.unusedVariables false
set_option linter.unusedSimpArgs false
namespace Go.Ab
variable {F : Funs}
def resC (agg : Option Nat) (g : G) : AV → Option AV
  | .mp b off => match g.hp b with
    | some (.cells cs _) => part cs off agg
    | _ => none
  | _ => none
theorem res_cell (n agg e g) : resE [.cell n agg] e g = resC agg g (e n) := by
  simp only [resE, resAll, resOne, resC]
  cases e n <;> try rfl
  rename_i b off
  simp only
  cases g.hp b with
  | none => rfl
  | some bl =>
    cases bl with
    | cells cs ro => simp only; cases part cs off agg <;> rfl
    | map _ => rfl
    | tok _ => rfl
end Go.Ab
end
section
set_option linter.unusedVariables false
set_option linter.unusedSimpArgs false
namespace Go.Ab
variable {F : Funs}
def fullRow (n a j : Nat) : List (Int × Int) := (List.range j).map fun (b : Nat) => ((a : Int), (b : Int))
def fullK (n k : Nat) : List (Int × Int) := (List.range k).flatMap fun a => fullRow n a n
theorem fullK_succ (n k) : fullK n (k + 1) = fullK n k ++ fullRow n k n := by simp [fullK, List.range_succ]
theorem mem_full {n : Nat} {p : Int × Int} : p ∈ fullK n n ↔ ∃ a b : Nat, a < n ∧ b < n ∧ p = ((a : Int), (b : Int)) := by
  unfold fullK fullRow
  simp only [List.mem_flatMap, List.mem_map, List.mem_range]
  constructor
  · rintro ⟨a, ha, b, hb, rfl⟩; exact ⟨a, b, ha, hb, rfl⟩
  · rintro ⟨a, b, ha, hb, rfl⟩; exact ⟨a, ha, b, hb, rfl⟩
def fullL (n a j : Nat) : List (Int × Int) := fullK n a ++ fullRow n a j
theorem fullL_0 (n a) : fullL n a 0 = fullK n a := by simp [fullL, fullRow]
theorem fullL_len (n a j) : (fullL n a j).length = a * n + j := by
  have : ∀ a, (fullK n a).length = a * n := by
    intro a
    induction a with
    | zero => simp [fullK]
    | succ a ih => rw [fullK_succ, List.length_append, ih, Nat.succ_mul]; simp [fullRow]
  simp [fullL, this, fullRow]
end Go.Ab
end
section
set_option linter.unusedVariables false
set_option linter.unusedSimpArgs false
namespace Go.Ab
structure Q4 where
  ii : Rw
  ic : Rw
  ci : Rw
  cc : Rw
inductive Pp (q : Q4) : Nat → Nat → Nat → Prop
  | b0 {a b} : hb q.ii a b = true → Pp q 0 a b
  | b1 {a b} : hb q.ic a b = true → Pp q 1 a b
  | b2 {a b} : hb q.ci a b = true → Pp q 2 a b
  | b3 {a b} : hb q.cc a b = true → Pp q 3 a b
  | r1 {a b} : Pp q 2 a b → Pp q 0 a b
  | r2 {a c b} : Pp q 1 a c → Pp q 2 c b → Pp q 0 a b
  | r3 {a c b} : Pp q 0 a c → Pp q 0 c b → Pp q 0 a b
  | r4 {a b} : Pp q 0 a b → Pp q 1 a b
  | r5 {a b} : Pp q 3 a b → Pp q 1 a b
  | r6 {a c b} : Pp q 1 a c → Pp q 3 c b → Pp q 1 a b
  | r7 {a c b} : Pp q 0 a c → Pp q 1 c b → Pp q 1 a b
  | r8 {a c b} : Pp q 2 a c → Pp q 0 c b → Pp q 2 a b
  | r9 {a c b} : Pp q 3 a c → Pp q 2 c b → Pp q 2 a b
  | r10 {a b} : Pp q 2 a b → Pp q 3 a b
  | r11 {a c b} : Pp q 2 a c → Pp q 1 c b → Pp q 3 a b
  | r12 {a c b} : Pp q 3 a c → Pp q 3 c b → Pp q 3 a b
structure WfQ (n : Nat) (q : Q4) : Prop where
  ii : Wf n q.ii
  ic : Wf n q.ic
  ci : Wf n q.ci
  cc : Wf n q.cc
structure LeQ (q p : Q4) : Prop where
  ii : ∀ a b, hb q.ii a b = true → hb p.ii a b = true
  ic : ∀ a b, hb q.ic a b = true → hb p.ic a b = true
  ci : ∀ a b, hb q.ci a b = true → hb p.ci a b = true
  cc : ∀ a b, hb q.cc a b = true → hb p.cc a b = true
theorem LeQ.refl (q : Q4) : LeQ q q := ⟨fun _ _ h => h, fun _ _ h => h, fun _ _ h => h, fun _ _ h => h⟩
theorem LeQ.trans {p q r : Q4} (h : LeQ p q) (k : LeQ q r) : LeQ p r := ⟨fun a b x => k.ii a b (h.ii a b x), fun a b x => k.ic a b (h.ic a b x), fun a b x => k.ci a b (h.ci a b x), fun a b x => k.cc a b (h.cc a b x)⟩
structure InP (q0 q : Q4) : Prop where
  ii : ∀ a b, hb q.ii a b = true → Pp q0 0 a b
  ic : ∀ a b, hb q.ic a b = true → Pp q0 1 a b
  ci : ∀ a b, hb q.ci a b = true → Pp q0 2 a b
  cc : ∀ a b, hb q.cc a b = true → Pp q0 3 a b
theorem InP.base (q : Q4) : InP q q := ⟨fun _ _ h => .b0 h, fun _ _ h => .b1 h, fun _ _ h => .b2 h, fun _ _ h => .b3 h⟩
structure Clo (q : Q4) : Prop where
  r1 : ∀ a b, hb q.ci a b = true → hb q.ii a b = true
  r2 : ∀ a c b, hb q.ic a c = true → hb q.ci c b = true → hb q.ii a b = true
  r3 : ∀ a c b, hb q.ii a c = true → hb q.ii c b = true → hb q.ii a b = true
  r4 : ∀ a b, hb q.ii a b = true → hb q.ic a b = true
  r5 : ∀ a b, hb q.cc a b = true → hb q.ic a b = true
  r6 : ∀ a c b, hb q.ic a c = true → hb q.cc c b = true → hb q.ic a b = true
  r7 : ∀ a c b, hb q.ii a c = true → hb q.ic c b = true → hb q.ic a b = true
  r8 : ∀ a c b, hb q.ci a c = true → hb q.ii c b = true → hb q.ci a b = true
  r9 : ∀ a c b, hb q.cc a c = true → hb q.ci c b = true → hb q.ci a b = true
  r10 : ∀ a b, hb q.ci a b = true → hb q.cc a b = true
  r11 : ∀ a c b, hb q.ci a c = true → hb q.ic c b = true → hb q.cc a b = true
  r12 : ∀ a c b, hb q.cc a c = true → hb q.cc c b = true → hb q.cc a b = true
def atQ (q : Q4) : Nat → Nat → Nat → Prop
  | 0, a, b => hb q.ii a b = true
  | 1, a, b => hb q.ic a b = true
  | 2, a, b => hb q.ci a b = true
  | _, a, b => hb q.cc a b = true
theorem clo_all {q0 q : Q4} (hc : Clo q) (hl : LeQ q0 q) {k a b : Nat} (h : Pp q0 k a b) : atQ q k a b := by
  induction h with
  | b0 h => exact hl.ii _ _ h
  | b1 h => exact hl.ic _ _ h
  | b2 h => exact hl.ci _ _ h
  | b3 h => exact hl.cc _ _ h
  | r1 _ h => exact hc.r1 _ _ h
  | r2 _ _ h k => exact hc.r2 _ _ _ h k
  | r3 _ _ h k => exact hc.r3 _ _ _ h k
  | r4 _ h => exact hc.r4 _ _ h
  | r5 _ h => exact hc.r5 _ _ h
  | r6 _ _ h k => exact hc.r6 _ _ _ h k
  | r7 _ _ h k => exact hc.r7 _ _ _ h k
  | r8 _ _ h k => exact hc.r8 _ _ _ h k
  | r9 _ _ h k => exact hc.r9 _ _ _ h k
  | r10 _ h => exact hc.r10 _ _ h
  | r11 _ _ h k => exact hc.r11 _ _ _ h k
  | r12 _ _ h k => exact hc.r12 _ _ _ h k
theorem clo_same {q0 q p : Q4} (hq : Clo q) (lq : LeQ q0 q) (iq : InP q0 q) (hp : Clo p) (lp : LeQ q0 p) (ip : InP q0 p) (a b : Nat) : hb q.ii a b = hb p.ii a b ∧ hb q.ic a b = hb p.ic a b ∧ hb q.ci a b = hb p.ci a b ∧ hb q.cc a b = hb p.cc a b := by
  refine ⟨?_, ?_, ?_, ?_⟩ <;> rw [Bool.eq_iff_iff]
  · exact ⟨fun h => clo_all hp lp (iq.ii a b h), fun h => clo_all hq lq (ip.ii a b h)⟩
  · exact ⟨fun h => clo_all hp lp (iq.ic a b h), fun h => clo_all hq lq (ip.ic a b h)⟩
  · exact ⟨fun h => clo_all hp lp (iq.ci a b h), fun h => clo_all hq lq (ip.ci a b h)⟩
  · exact ⟨fun h => clo_all hp lp (iq.cc a b h), fun h => clo_all hq lq (ip.cc a b h)⟩
theorem filter_lt {α : Type} {P Q : α → Bool} : ∀ {l : List α}, (∀ x ∈ l, P x = true → Q x = true) → (l.filter P).length ≤ (l.filter Q).length
  | [], _ => by simp
  | x :: l, h => by
    have ih := filter_lt (P := P) (Q := Q) (l := l) fun y hy => h y (List.mem_cons_of_mem _ hy)
    have h0 := h x (List.mem_cons_self ..)
    rw [List.filter_cons, List.filter_cons]
    cases hP : P x with
    | true => rw [h0 hP, if_pos rfl, if_pos rfl]; simp only [List.length_cons]; omega
    | false =>
      rw [if_neg (by simp)]
      split <;> first | omega | (simp only [List.length_cons]; omega)
theorem filter_lt' {α : Type} {P Q : α → Bool} : ∀ {l : List α}, (∀ x ∈ l, P x = true → Q x = true) → (∃ x ∈ l, P x = false ∧ Q x = true) → (l.filter P).length < (l.filter Q).length
  | [], _, ⟨x, hx, _⟩ => by cases hx
  | x :: l, h, ⟨y, hy, h1, h2⟩ => by
    have hl := fun z hz => h z (List.mem_cons_of_mem x hz)
    have h0 := h x (List.mem_cons_self ..)
    rw [List.filter_cons, List.filter_cons]
    rcases List.mem_cons.1 hy with rfl | hy
    · have := filter_lt (P := P) (Q := Q) hl
      rw [h1, h2, if_neg (by simp), if_pos rfl]
      simp only [List.length_cons]; omega
    · have ih := filter_lt' (P := P) (Q := Q) hl ⟨y, hy, h1, h2⟩
      cases hP : P x with
      | true => rw [h0 hP, if_pos rfl, if_pos rfl]; simp only [List.length_cons]; omega
      | false =>
        rw [if_neg (by simp)]
        split <;> first | omega | (simp only [List.length_cons]; omega)
def cntR (n : Nat) (R : Rw) : Nat := ((fullK n n).filter fun p => hb R p.1.toNat p.2.toNat).length
theorem cntR_le {n : Nat} (hn : n ≤ 40) (R : Rw) : cntR n R ≤ 1600 := by
  have h1 := List.length_filter_le (fun p : Int × Int => hb R p.1.toNat p.2.toNat) (fullK n n)
  have h2 : (fullK n n).length = n * n := by have := fullL_len n n 0; rwa [fullL_0] at this
  have h3 : n * n ≤ 40 * 40 := Nat.mul_le_mul hn hn
  unfold cntR; omega
theorem cntR_mono {n : Nat} {R S : Rw} (h : ∀ a b, hb R a b = true → hb S a b = true) : cntR n R ≤ cntR n S := filter_lt fun p _ hp => h _ _ hp
theorem cntR_lt {n : Nat} (hn : n ≤ 40) {R S : Rw} (hS : Wf n S) (h : ∀ a b, hb R a b = true → hb S a b = true) (hne : noneR (lessR S R) = false) : cntR n R < cntR n S := by
  refine filter_lt' (fun p _ hp => h _ _ hp) ?_
  have hex : ∃ a b, hb S a b = true ∧ hb R a b = false := by
    by_cases hx : ∃ a b, hb S a b = true ∧ hb R a b = false
    · exact hx
    · exfalso
      have : noneR (lessR S R) = true := (in_iff hn hS).2 fun a b hab => by
        cases hr : hb R a b with
        | true => rfl
        | false => exact absurd ⟨a, b, hab, hr⟩ hx
      rw [hne] at this; cases this
  obtain ⟨a, b, h1, h2⟩ := hex
  obtain ⟨ha, hb'⟩ := hS a b h1
  exact ⟨((a : Int), (b : Int)), mem_full.2 ⟨a, b, ha, hb', rfl⟩, by simpa using h2, by simpa using h1⟩
def cntQ (n : Nat) (q : Q4) : Nat := cntR n q.ii + cntR n q.ic + cntR n q.ci + cntR n q.cc
theorem cntQ_le {n : Nat} (hn : n ≤ 40) (q : Q4) : cntQ n q ≤ 6400 := by
  have h1 := cntR_le hn q.ii
  have h2 := cntR_le hn q.ic
  have h3 := cntR_le hn q.ci
  have h4 := cntR_le hn q.cc
  unfold cntQ; omega
def subQ (q p : Q4) : Bool := noneR (lessR q.ii p.ii) && (noneR (lessR q.ic p.ic) && (noneR (lessR q.ci p.ci) && noneR (lessR q.cc p.cc)))
theorem cntQ_lt {n : Nat} (hn : n ≤ 40) {q p : Q4} (hp : WfQ n p) (h : LeQ q p) (hne : subQ p q = false) : cntQ n q < cntQ n p := by
  have h1 := cntR_mono (n := n) h.ii
  have h2 := cntR_mono (n := n) h.ic
  have h3 := cntR_mono (n := n) h.ci
  have h4 := cntR_mono (n := n) h.cc
  unfold subQ at hne
  unfold cntQ
  cases c1 : noneR (lessR p.ii q.ii) with
  | false => have := cntR_lt hn hp.ii h.ii c1; omega
  | true =>
    cases c2 : noneR (lessR p.ic q.ic) with
    | false => have := cntR_lt hn hp.ic h.ic c2; omega
    | true =>
      cases c3 : noneR (lessR p.ci q.ci) with
      | false => have := cntR_lt hn hp.ci h.ci c3; omega
      | true =>
        cases c4 : noneR (lessR p.cc q.cc) with
        | false => have := cntR_lt hn hp.cc h.cc c4; omega
        | true => rw [c1, c2, c3, c4] at hne; cases hne
theorem subQ_le {n : Nat} (hn : n ≤ 40) {q p : Q4} (hp : WfQ n p) (h : subQ p q = true) : LeQ p q := by
  unfold subQ at h
  simp only [Bool.and_eq_true] at h
  exact ⟨(in_iff hn hp.ii).1 h.1, (in_iff hn hp.ic).1 h.2.1, (in_iff hn hp.ci).1 h.2.2.1, (in_iff hn hp.cc).1 h.2.2.2⟩
def stepQ (n : Nat) (q : Q4) : Q4 := ⟨orR (orR (orR q.ii q.ci) (thenR n q.ic q.ci)) (thenR n q.ii q.ii), orR (orR (orR (orR q.ic q.ii) q.cc) (thenR n q.ic q.cc)) (thenR n q.ii q.ic), orR (orR q.ci (thenR n q.ci q.ii)) (thenR n q.cc q.ci), orR (orR (orR q.cc q.ci) (thenR n q.ci q.ic)) (thenR n q.cc q.cc)⟩
def itQ (n : Nat) : Nat → Q4 → Q4
  | 0, q => q
  | f + 1, q => if subQ (stepQ n q) q then q else itQ n f (stepQ n q)
section
variable {n : Nat} {q : Q4} (w : WfQ n q)
include w
theorem stepQ_wf : WfQ n (stepQ n q) :=
  ⟨wf_or (wf_or (wf_or w.ii w.ci) (wf_then w.ic w.ci)) (wf_then w.ii w.ii), wf_or (wf_or (wf_or (wf_or w.ic w.ii) w.cc) (wf_then w.ic w.cc)) (wf_then w.ii w.ic), wf_or (wf_or w.ci (wf_then w.ci w.ii)) (wf_then w.cc w.ci), wf_or (wf_or (wf_or w.cc w.ci) (wf_then w.ci w.ic)) (wf_then w.cc w.cc)⟩
omit w in
theorem stepQ_ge : LeQ q (stepQ n q) := by
  refine ⟨fun a b h => ?_, fun a b h => ?_, fun a b h => ?_, fun a b h => ?_⟩ <;> simp only [stepQ, hb_or, h, Bool.true_or]
theorem stepQ_in {q0 : Q4} (h : InP q0 q) : InP q0 (stepQ n q) := by
  refine ⟨fun a b k => ?_, fun a b k => ?_, fun a b k => ?_, fun a b k => ?_⟩ <;> simp only [stepQ, hb_or, Bool.or_eq_true] at k
  · rcases k with ((k | k) | k) | k
    · exact h.ii a b k
    · exact .r1 (h.ci a b k)
    · obtain ⟨c, k1, k2⟩ := (hb_then w.ic a b).1 k; exact .r2 (h.ic _ _ k1) (h.ci _ _ k2)
    · obtain ⟨c, k1, k2⟩ := (hb_then w.ii a b).1 k; exact .r3 (h.ii _ _ k1) (h.ii _ _ k2)
  · rcases k with (((k | k) | k) | k) | k
    · exact h.ic a b k
    · exact .r4 (h.ii a b k)
    · exact .r5 (h.cc a b k)
    · obtain ⟨c, k1, k2⟩ := (hb_then w.ic a b).1 k; exact .r6 (h.ic _ _ k1) (h.cc _ _ k2)
    · obtain ⟨c, k1, k2⟩ := (hb_then w.ii a b).1 k; exact .r7 (h.ii _ _ k1) (h.ic _ _ k2)
  · rcases k with (k | k) | k
    · exact h.ci a b k
    · obtain ⟨c, k1, k2⟩ := (hb_then w.ci a b).1 k; exact .r8 (h.ci _ _ k1) (h.ii _ _ k2)
    · obtain ⟨c, k1, k2⟩ := (hb_then w.cc a b).1 k; exact .r9 (h.cc _ _ k1) (h.ci _ _ k2)
  · rcases k with ((k | k) | k) | k
    · exact h.cc a b k
    · exact .r10 (h.ci a b k)
    · obtain ⟨c, k1, k2⟩ := (hb_then w.ci a b).1 k; exact .r11 (h.ci _ _ k1) (h.ic _ _ k2)
    · obtain ⟨c, k1, k2⟩ := (hb_then w.cc a b).1 k; exact .r12 (h.cc _ _ k1) (h.cc _ _ k2)
theorem stepQ_clo (h : LeQ (stepQ n q) q) : Clo q := by
  have t1 := fun a c b (x : hb q.ic a c = true) (y : hb q.ci c b = true) => (hb_then w.ic a b).2 ⟨c, x, y⟩
  have t2 := fun a c b (x : hb q.ii a c = true) (y : hb q.ii c b = true) => (hb_then w.ii a b).2 ⟨c, x, y⟩
  have t3 := fun a c b (x : hb q.ic a c = true) (y : hb q.cc c b = true) => (hb_then w.ic a b).2 ⟨c, x, y⟩
  have t4 := fun a c b (x : hb q.ii a c = true) (y : hb q.ic c b = true) => (hb_then w.ii a b).2 ⟨c, x, y⟩
  have t5 := fun a c b (x : hb q.ci a c = true) (y : hb q.ii c b = true) => (hb_then w.ci a b).2 ⟨c, x, y⟩
  have t6 := fun a c b (x : hb q.cc a c = true) (y : hb q.ci c b = true) => (hb_then w.cc a b).2 ⟨c, x, y⟩
  have t7 := fun a c b (x : hb q.ci a c = true) (y : hb q.ic c b = true) => (hb_then w.ci a b).2 ⟨c, x, y⟩
  have t8 := fun a c b (x : hb q.cc a c = true) (y : hb q.cc c b = true) => (hb_then w.cc a b).2 ⟨c, x, y⟩
  refine ⟨fun a b x => h.ii a b ?_, fun a c b x y => h.ii a b ?_, fun a c b x y => h.ii a b ?_, fun a b x => h.ic a b ?_, fun a b x => h.ic a b ?_, fun a c b x y => h.ic a b ?_, fun a c b x y => h.ic a b ?_, fun a c b x y => h.ci a b ?_, fun a c b x y => h.ci a b ?_, fun a b x => h.cc a b ?_, fun a c b x y => h.cc a b ?_, fun a c b x y => h.cc a b ?_⟩ <;> simp only [stepQ, hb_or]
  · rw [x]; simp
  · rw [t1 a c b x y]; simp
  · rw [t2 a c b x y]; simp
  · rw [x]; simp
  · rw [x]; simp
  · rw [t3 a c b x y]; simp
  · rw [t4 a c b x y]; simp
  · rw [t5 a c b x y]; simp
  · rw [t6 a c b x y]; simp
  · rw [x]; simp
  · rw [t7 a c b x y]; simp
  · rw [t8 a c b x y]; simp
end
theorem itQ_ok {n : Nat} (hn : n ≤ 40) {q0 : Q4} : ∀ (f : Nat) (q : Q4), WfQ n q → LeQ q0 q → InP q0 q → 6400 - cntQ n q < f → WfQ n (itQ n f q) ∧ LeQ q0 (itQ n f q) ∧ InP q0 (itQ n f q) ∧ Clo (itQ n f q)
  | 0, q, _, _, _, h => by omega
  | f + 1, q, w, l, i, h => by
    unfold itQ
    have hle := cntQ_le hn (stepQ n q)
    cases c : subQ (stepQ n q) q with
    | true => rw [if_pos rfl]; exact ⟨w, l, i, stepQ_clo w (subQ_le hn (stepQ_wf w) c)⟩
    | false =>
      rw [if_neg (by simp)]
      have := cntQ_lt hn (stepQ_wf w) stepQ_ge c
      exact itQ_ok hn f _ (stepQ_wf w) (l.trans stepQ_ge) (stepQ_in w i) (by omega)
end Go.Ab
end
section
set_option linter.unusedVariables false
set_option linter.unusedSimpArgs false
namespace Go.Ab
variable {F : Funs}
def retE (rs : List ARes) (P : AV → Prop) : Out → Env → G → Prop := fun o e g => ∃ v, retQ rs v o e g ∧ P v
theorem retE_ret {rs P e g} : retE rs P .ret e g = (∃ v, (match resE rs e g with | some v0 => frz g.hp depth v0 | none => none) = some v ∧ P v) := rfl
theorem pureE_of {f : Nat} {fn : AFun} {asx : List AV} {P : AV → Prop} (hF : F f = some fn) (h : W F fn.body (argEnv asx) g0 (retE fn.res P)) : ∃ v, pureS F f asx = some v ∧ P v := by
  obtain ⟨o, e, g, h1, v, h2, h3⟩ := h
  exact ⟨v, pure_of hF ⟨o, e, g, h1, h2⟩, h3⟩
theorem res_4 (a b c d e g) : resE [.t a, .t b, .t c, .t d] e g = some (.tup [e a, e b, e c, e d]) := rfl
theorem frz_tup4 (hp) (a b c d : List AV) : frz hp depth (.tup [.ptr a, .ptr b, .ptr c, .ptr d]) = some (.tup [.ptr a, .ptr b, .ptr c, .ptr d]) := by
  show frz hp (8 + 1) _ = _
  simp only [frz, frzL, Option.map_some]
def pR (e : Ev) : Bool := e.kd == 1
def pW (e : Ev) : Bool := e.kd == 2
def pM (e : Ev) : Bool := e.kd == 1 || e.kd == 2
def pMi (e : Ev) : Bool := e.th != 0
structure PpoF (F : Funs) : Prop where
  pp : Pk_ppo F
  pe : Pk_eco F
  pr : Pk_rel F
  po : F 60 = some A_graph_Po
  gof : F 81 = some A_graph_Of
  set : F 166 = some A_graph_Set
  ls : RelLs F
section
variable (X : Gr)
def plocR : Rw := thenR (nOf X) (setR X pMi) (partR inner X (nOf X) (locR X))
def byR (out : Rw) : Rw := andR (plocR X) (thenR (nOf X) (partR outer X (nOf X) out) (partR outer X (nOf X) (rfR X)))
def rdwR : Rw := byR X (relE (frS X.co) X)
def detR : Rw := byR X (relE (coS X.co) X)
def q0Q : Q4 := ⟨orR (orR (newR (nOf X) X.data) (rdwR X)) (partR inner X (nOf X) (rfR X)), newR (nOf X) [], orR (thenR (nOf X) (newR (nOf X) X.ctrli) (setR X pM)) (detR X), orR (orR (newR (nOf X) X.data) (plocR X)) (thenR (nOf X) (newR (nOf X) X.ctrl) (setR X pM))⟩
def partsQ : Q4 := itQ (nOf X) 6401 (q0Q X)
def ppoR : Rw := orR (thenR (nOf X) (thenR (nOf X) (setR X pR) (partsQ X).ii) (setR X pR)) (thenR (nOf X) (thenR (nOf X) (setR X pR) (partsQ X).ic) (setR X pW))
end
def orL (R : Rw) (l : List Rw) : Rw := l.foldl orR R
section
variable (S : PpoF F)
include S
set_option maxRecDepth 100000 in
theorem sp_isR (e : Ev) : pureS F 167 [.agg (evC e)] = some (.b (pR e)) := by
  refine pure_of S.pp.ppo_isR ?_
  simp (disch := omega) only [A_ppo_isR, wp, Nat.reduceAdd, Nat.reduceMul, Nat.reduceSub, gl]
  rfl
set_option maxRecDepth 100000 in
theorem sp_isW (e : Ev) : pureS F 168 [.agg (evC e)] = some (.b (pW e)) := by
  refine pure_of S.pp.ppo_isW ?_
  simp (disch := omega) only [A_ppo_isW, wp, Nat.reduceAdd, Nat.reduceMul, Nat.reduceSub, gl]
  rfl
set_option maxRecDepth 100000 in
theorem sp_isM (e : Ev) : pureS F 219 [.agg (evC e)] = some (.b (pM e)) := by
  refine pure_of S.pp.ppo_isM ?_
  unfold pM
  cases h1 : (e.kd == 1) with
  | true => simp (disch := omega) only [A_ppo_isM, wp, Nat.reduceAdd, Nat.reduceMul, Nat.reduceSub, gl, h1]
  | false => simp (disch := omega) only [A_ppo_isM, wp, Nat.reduceAdd, Nat.reduceMul, Nat.reduceSub, gl, h1]
set_option maxRecDepth 100000 in
theorem sp_isMi (e : Ev) : pureS F 246 [.agg (evC e)] = some (.b (pMi e)) := by
  refine pure_of S.pp.ppo_ploc_1 ?_
  simp (disch := omega) only [A_ppo_ploc_1, wp, Nat.reduceAdd, Nat.reduceMul, Nat.reduceSub, gl]
  rfl
set_option maxRecDepth 100000 in
set_option maxHeartbeats 4000000 in
theorem sp_orP {n : Nat} (hn : n ≤ 40) (R : Rw) (l : List Rw) (hl : l.length ≤ 1000) (t : Tok) : pureS F 220 [.ptr (relC n R), .sl (relsC n l) l.length t] = some (.ptr (relC n (orL R l))) := by
  refine pure_of S.pp.ppo_or ?_
  simp (disch := omega) only [A_ppo_or, wp, Nat.reduceAdd, Nat.reduceMul, Nat.reduceSub, gl]
  refine W_loop (fun q e g => ∃ k, q = l.length - k ∧ k ≤ l.length ∧ e 0 = .ptr (relC n (orL R (l.take k))) ∧ e 7 = .sl (relsC n l) l.length t ∧ e 8 = .i .i64 l.length ∧ e 9 = .i .i64 k) l.length ?_ ?_
  · refine ⟨0, rfl, Nat.zero_le _, ?_⟩
    simp (disch := omega) only [wp, Nat.reduceAdd, Nat.reduceMul, Nat.reduceSub]
    exact ⟨by rfl, rfl⟩
  · rintro q e g ⟨k, rfl, hk, e0, e7, e8, e9⟩
    by_cases hk' : k < l.length
    · have hk1 : (k : Int) < l.length := by omega
      have hwk := succ_wrap (k := k) (by omega)
      have hp := rels_part (n := n) hk'
      have hs : orL R (l.take (k + 1)) = orR (orL R (l.take k)) (l.getD k fun _ => 0) := by
        unfold orL
        rw [List.take_add_one, List.foldl_append, List.getElem?_eq_getElem hk', List.getD_eq_getElem?_getD, List.getElem?_eq_getElem hk']
        rfl
      generalize orL R (l.take k) = A at e0 hs
      generalize (l.getD k fun _ => 0) = B at hp hs
      simp (disch := omega) only [wp, Nat.reduceAdd, Nat.reduceMul, Nat.reduceSub, gl, e0, e7, e8, e9, hk1, hp, sp_or S.pr hn hn, Nat.max_self, hwk]
      exact ⟨l.length - (k + 1), by omega, k + 1, rfl, by omega, by rw [hs], rfl⟩
    · obtain rfl : k = l.length := by omega
      have hk1 : ¬ ((l.length : Int) < l.length) := by omega
      rw [List.take_length] at e0
      simp (disch := omega) only [wp, Nat.reduceAdd, Nat.reduceMul, Nat.reduceSub, gl, e0, e7, e8, e9, hk1]
theorem sp_or_1 {n : Nat} (hn : n ≤ 40) (R A : Rw) : pureS F 220 [.ptr (relC n R), .sl [.ptr (relC n A)] 1 .non] = some (.ptr (relC n (orR R A))) := sp_orP S hn R [A] (by simp) .non
theorem sp_or_2 {n : Nat} (hn : n ≤ 40) (R A B : Rw) : pureS F 220 [.ptr (relC n R), .sl [.ptr (relC n A), .ptr (relC n B)] 2 .non] = some (.ptr (relC n (orR (orR R A) B))) := sp_orP S hn R [A, B] (by simp) .non
theorem sp_or_3 {n : Nat} (hn : n ≤ 40) (R A B C : Rw) : pureS F 220 [.ptr (relC n R), .sl [.ptr (relC n A), .ptr (relC n B), .ptr (relC n C)] 3 .non] = some (.ptr (relC n (orR (orR (orR R A) B) C))) := sp_orP S hn R [A, B, C] (by simp) .non
theorem sp_or_4 {n : Nat} (hn : n ≤ 40) (R A B C D : Rw) : pureS F 220 [.ptr (relC n R), .sl [.ptr (relC n A), .ptr (relC n B), .ptr (relC n C), .ptr (relC n D)] 4 .non] = some (.ptr (relC n (orR (orR (orR (orR R A) B) C) D))) := sp_orP S hn R [A, B, C, D] (by simp) .non
variable {X : Gr} (hX : Few X)
include hX
theorem sp_setF {fid : Nat} {p : Ev → Bool} (hp : ∀ e, pureS F fid [.agg (evC e)] = some (.b (p e))) : pureS F 166 [.agg (grC X), .fn fid [] []] = some (.ptr (relC (nOf X) (setR X p))) :=
  sp_setE S.set S.gof S.pr (by have := hX.1; omega) hp (fun hp => frzL_nil hp _) (fun hp => rfl)
theorem sp_locP : pureS F 41 [.agg (grC X)] = some (.ptr (relC (nOf X) (locR X))) := sp_Loc S.pe S.po S.gof S.pr (by have := hX.1; omega)
theorem sp_rfP : pureS F 48 [.agg (grC X)] = some (.ptr (relC (nOf X) (rfR X))) := sp_Rf S.pe S.gof S.pr hX
omit hX in
theorem sp_ofP (l : List (Int × Int)) (hl : l.length ≤ 1000) (t : Tok) : pureS F 81 [.agg (grC X), .sl (pairsC l) l.length t] = some (.ptr (relC (nOf X) (newR (nOf X) l))) := sp_of S.gof S.pr X l t (by omega)
set_option maxRecDepth 100000 in
theorem sp_ploc : pureS F 221 [.agg (grC X)] = some (.ptr (relC (nOf X) (plocR X))) := by
  refine pure_of S.pp.ppo_ploc ?_
  have hn := nOf_le X
  simp (disch := omega) only [A_ppo_ploc, wp, Nat.reduceAdd, Nat.reduceMul, Nat.reduceSub, gl, sp_setF S hX (sp_isMi S), sp_locP S hX, sp_Inner S.pe S.gof S.pr hn, sp_then S.pr hn hn, Nat.max_self]
  rfl
set_option maxRecDepth 100000 in
theorem sp_by' (out : Rw) : pureS F 170 [.agg (grC X), .ptr (relC (nOf X) out)] = some (.ptr (relC (nOf X) (byR X out))) := by
  refine pure_of S.pp.ppo_by ?_
  have hn := nOf_le X
  simp (disch := omega) only [A_ppo_by, wp, Nat.reduceAdd, Nat.reduceMul, Nat.reduceSub, gl, sp_ploc S hX, sp_rfP S hX, sp_Outer S.pe S.gof S.pr hn, sp_then S.pr hn hn, sp_and S.pr hn hn, Nat.max_self]
  rfl
set_option maxRecDepth 100000 in
theorem sp_rdw : pureS F 145 [.agg (grC X)] = some (.ptr (relC (nOf X) (rdwR X))) := by
  refine pure_of S.pp.ppo_Rdw ?_
  simp (disch := omega) only [A_ppo_Rdw, wp, Nat.reduceAdd, Nat.reduceMul, Nat.reduceSub, gl, sp_by' S hX, sp_Fr S.pe S.gof S.pr hX]
  rfl
set_option maxRecDepth 100000 in
theorem sp_det : pureS F 146 [.agg (grC X)] = some (.ptr (relC (nOf X) (detR X))) := by
  refine pure_of S.pp.ppo_Detour ?_
  simp (disch := omega) only [A_ppo_Detour, wp, Nat.reduceAdd, Nat.reduceMul, Nat.reduceSub, gl, sp_by' S hX, sp_Co S.pe S.gof S.pr hX]
  rfl
omit S hX in
theorem q0_wf (X : Gr) : WfQ (nOf X) (q0Q X) := by
  have hn := nOf_le X
  have wp : Wf (nOf X) (plocR X) := wf_then (wf_new hn _) (wf_new hn _)
  have wb : ∀ out, Wf (nOf X) (byR X out) := fun out => wf_and wp
  exact ⟨wf_or (wf_or (wf_new hn _) (wb _)) (wf_new hn _), wf_new hn _, wf_or (wf_then (wf_new hn _) (wf_new hn _)) (wb _), wf_or (wf_or (wf_new hn _) wp) (wf_then (wf_new hn _) (wf_new hn _))⟩
def tupQ (n : Nat) (q : Q4) : AV := .tup [.ptr (relC n q.ii), .ptr (relC n q.ic), .ptr (relC n q.ci), .ptr (relC n q.cc)]
set_option maxRecDepth 100000 in
set_option maxHeartbeats 8000000 in
theorem sp_parts (hd : X.data.length ≤ 1000) (hc : X.ctrl.length ≤ 1000) (hi : X.ctrli.length ≤ 1000) : pureS F 165 [.agg (grC X)] = some (tupQ (nOf X) (partsQ X)) := by
  refine pure_of S.pp.ppo_Parts ?_
  have hn := nOf_le X
  have d0 : ∀ hp, True := fun (_ : Nat) => trivial
  have dn : pureS F 11 [.i .i64 X.evs.length, .sl [] 0 .non] = some (.ptr (relC (nOf X) (newR (nOf X) []))) := sp_new S.pr X.evs.length [] .non (by simp)
  have r4 : ∀ x : AV, List.replicate 4 x = [x, x, x, x] := fun _ => rfl
  have hw0 := q0_wf X
  have hq0 : q0Q X = ⟨orR (orR (newR (nOf X) X.data) (rdwR X)) (partR inner X (nOf X) (rfR X)), newR (nOf X) [], orR (thenR (nOf X) (newR (nOf X) X.ctrli) (setR X pM)) (detR X), orR (orR (newR (nOf X) X.data) (plocR X)) (thenR (nOf X) (newR (nOf X) X.ctrl) (setR X pM))⟩ := rfl
  have hpq : partsQ X = itQ (nOf X) 6401 (q0Q X) := rfl
  simp (disch := omega) only [A_ppo_Parts, wp, Nat.reduceAdd, Nat.reduceMul, Nat.reduceSub, gl, sp_setF S hX (sp_isM S), sp_ofP S, sp_rdw S hX, sp_det S hX, sp_ploc S hX, sp_rfP S hX, sp_Inner S.pe S.gof S.pr hn, sp_then S.pr hn hn, sp_or_1 S hn, sp_or_2 S hn, dn, Nat.max_self]
  generalize partsQ X = R at hpq
  refine W_loop (fun m e g => ∃ q f, m = 6400 - cntQ (nOf X) q ∧ m < f ∧ R = itQ (nOf X) f q ∧ WfQ (nOf X) q ∧ e 2 = .ptr (relC (nOf X) q.ii) ∧ e 3 = .ptr (relC (nOf X) q.ic) ∧ e 4 = .ptr (relC (nOf X) q.ci) ∧ e 5 = .ptr (relC (nOf X) q.cc)) (6400 - cntQ (nOf X) (q0Q X)) ?_ ?_
  · refine ⟨q0Q X, 6401, rfl, by omega, hpq, hw0, ?_⟩
    rw [hq0]
    simp (disch := omega) only [wp, Nat.reduceAdd, Nat.reduceMul, Nat.reduceSub]
  · rintro m e g ⟨q, f, rfl, hf, hR, w, e2, e3, e4, e5⟩
    have hcl := cntQ_le hn (stepQ (nOf X) q)
    have hlt := cntQ_lt hn (stepQ_wf w) stepQ_ge
    obtain ⟨f', rfl⟩ : ∃ f', f = f' + 1 := ⟨f - 1, by omega⟩
    have hst : stepQ (nOf X) q = ⟨orR (orR (orR q.ii q.ci) (thenR (nOf X) q.ic q.ci)) (thenR (nOf X) q.ii q.ii), orR (orR (orR (orR q.ic q.ii) q.cc) (thenR (nOf X) q.ic q.cc)) (thenR (nOf X) q.ii q.ic), orR (orR q.ci (thenR (nOf X) q.ci q.ii)) (thenR (nOf X) q.cc q.ci), orR (orR (orR q.cc q.ci) (thenR (nOf X) q.ci q.ic)) (thenR (nOf X) q.cc q.cc)⟩ := rfl
    have hsb : subQ (stepQ (nOf X) q) q = (noneR (lessR (stepQ (nOf X) q).ii q.ii) && (noneR (lessR (stepQ (nOf X) q).ic q.ic) && (noneR (lessR (stepQ (nOf X) q).ci q.ci) && noneR (lessR (stepQ (nOf X) q).cc q.cc)))) := rfl
    have go : subQ (stepQ (nOf X) q) q = false → ∃ m', m' < 6400 - cntQ (nOf X) q ∧ m' = 6400 - cntQ (nOf X) (stepQ (nOf X) q) ∧ m' < f' ∧ R = itQ (nOf X) f' (stepQ (nOf X) q) := by
      intro hs
      have := hlt hs
      refine ⟨_, by omega, rfl, by omega, ?_⟩
      rw [hR, itQ, hs, if_neg (by simp)]
    have ws := stepQ_wf w
    generalize hA : (stepQ (nOf X) q).ii = A at hsb
    generalize hB : (stepQ (nOf X) q).ic = B at hsb
    generalize hC : (stepQ (nOf X) q).ci = C at hsb
    generalize hD : (stepQ (nOf X) q).cc = D at hsb
    rw [hst] at hA hB hC hD
    simp only at hA hB hC hD
    have fin : subQ (stepQ (nOf X) q) q = false → ∃ m', m' < 6400 - cntQ (nOf X) q ∧ ∃ q' f, m' = 6400 - cntQ (nOf X) q' ∧ m' < f ∧ R = itQ (nOf X) f q' ∧ WfQ (nOf X) q' ∧ AV.ptr (relC (nOf X) A) = .ptr (relC (nOf X) q'.ii) ∧ AV.ptr (relC (nOf X) B) = .ptr (relC (nOf X) q'.ic) ∧ AV.ptr (relC (nOf X) C) = .ptr (relC (nOf X) q'.ci) ∧ AV.ptr (relC (nOf X) D) = .ptr (relC (nOf X) q'.cc) := by
      intro hs
      obtain ⟨m', h1, h2, h3, h4⟩ := go hs
      exact ⟨m', h1, stepQ (nOf X) q, f', h2, h3, h4, ws, by rw [← hA]; rfl, by rw [← hB]; rfl, by rw [← hC]; rfl, by rw [← hD]; rfl⟩
    cases c1 : noneR (lessR A q.ii)
    case false =>
      simp (disch := omega) only [wp, Nat.reduceAdd, Nat.reduceMul, Nat.reduceSub, gl, e2, e3, e4, e5, r4, sp_then S.pr hn hn, sp_or_3 S hn, sp_or_4 S hn, sp_or_2 S hn, sp_in S.ls S.pr hn hn, Nat.max_self, hA, hB, hC, hD, c1]
      exact fin (by rw [hsb, c1]; rfl)
    cases c2 : noneR (lessR B q.ic)
    case false =>
      simp (disch := omega) only [wp, Nat.reduceAdd, Nat.reduceMul, Nat.reduceSub, gl, e2, e3, e4, e5, r4, sp_then S.pr hn hn, sp_or_3 S hn, sp_or_4 S hn, sp_or_2 S hn, sp_in S.ls S.pr hn hn, Nat.max_self, hA, hB, hC, hD, c1, c2]
      exact fin (by rw [hsb, c1, c2]; rfl)
    cases c3 : noneR (lessR C q.ci)
    case false =>
      simp (disch := omega) only [wp, Nat.reduceAdd, Nat.reduceMul, Nat.reduceSub, gl, e2, e3, e4, e5, r4, sp_then S.pr hn hn, sp_or_3 S hn, sp_or_4 S hn, sp_or_2 S hn, sp_in S.ls S.pr hn hn, Nat.max_self, hA, hB, hC, hD, c1, c2, c3]
      exact fin (by rw [hsb, c1, c2, c3]; rfl)
    cases c4 : noneR (lessR D q.cc)
    case false =>
      simp (disch := omega) only [wp, Nat.reduceAdd, Nat.reduceMul, Nat.reduceSub, gl, e2, e3, e4, e5, r4, sp_then S.pr hn hn, sp_or_3 S hn, sp_or_4 S hn, sp_or_2 S hn, sp_in S.ls S.pr hn hn, Nat.max_self, hA, hB, hC, hD, c1, c2, c3, c4]
      exact fin (by rw [hsb, c1, c2, c3, c4]; rfl)
    have hRq : R = q := by rw [hR, itQ, hsb, c1, c2, c3, c4]; rfl
    subst hRq
    simp (disch := omega) only [wp, Nat.reduceAdd, Nat.reduceMul, Nat.reduceSub, gl, e2, e3, e4, e5, r4, sp_then S.pr hn hn, sp_or_3 S hn, sp_or_4 S hn, sp_or_2 S hn, sp_in S.ls S.pr hn hn, Nat.max_self, hA, hB, hC, hD, c1, c2, c3, c4, res_4, frz_tup4]
    rfl
set_option maxRecDepth 100000 in
theorem sp_ppo (hd : X.data.length ≤ 1000) (hc : X.ctrl.length ≤ 1000) (hi : X.ctrli.length ≤ 1000) : pureS F 143 [.agg (grC X)] = some (.ptr (relC (nOf X) (ppoR X))) := by
  refine pure_of S.pp.ppo_Ppo ?_
  have hn := nOf_le X
  have hp := sp_parts S hX hd hc hi
  unfold tupQ at hp
  have x1 : ∀ (a b c d : AV) g, vExt 1 (.tup [a, b, c, d]) g = some (b, g) := fun _ _ _ _ _ => rfl
  have x0 : ∀ (a b c d : AV) g, vExt 0 (.tup [a, b, c, d]) g = some (a, g) := fun _ _ _ _ _ => rfl
  have x2 : ∀ (a b c d : AV) g, vExt 2 (.tup [a, b, c, d]) g = some (c, g) := fun _ _ _ _ _ => rfl
  have x3 : ∀ (a b c d : AV) g, vExt 3 (.tup [a, b, c, d]) g = some (d, g) := fun _ _ _ _ _ => rfl
  simp (disch := omega) only [A_ppo_Ppo, o_ext, x0, x1, x2, x3, wp, Nat.reduceAdd, Nat.reduceMul, Nat.reduceSub, gl, hp, sp_setF S hX (sp_isR S), sp_setF S hX (sp_isW S), sp_then S.pr hn hn, sp_or S.pr hn hn, Nat.max_self]
  rfl
end
end Go.Ab
end
section
namespace Go.Ab
def A_order_Bob : AFun := { res := [.t 2], body := (.seq (.reg false [{ dst := some 1, op := .boxI (.t 0) },
  { dst := some 2, op := .mv (.c (.nilp)) }])
 (.seq (.reg false [{ dst := some 4, op := .ld (some 8) (.t 1) },
  { dst := some 5, op := .call .pure (.c (.fn 60 [] [])) [.t 4] },
  { dst := some 3, op := .new ([.nilp]) },
  { dst := none, op := .st 1 (.t 3) (.t 5) }])
 (.seq (.imm 3 (.reg false [{ dst := some 6, op := .ld (some 8) (.t 1) },
  { dst := some 7, op := .mkfn 194 [] [.t 3, .t 1] },
  { dst := some 8, op := .mkfn 197 [] [.t 1, .t 3] },
  { dst := some 9, op := .mkfn 199 [] [.t 3, .t 1] },
  { dst := some 10, op := .mkfn 201 [] [.t 1, .t 3] },
  { dst := some 11, op := .mkfn 202 [] [.t 1] },
  { dst := some 12, op := .bsl true 5 (List.replicate 5 (.nilf)) [(0, 1, .t 7), (1, 1, .t 8), (2, 1, .t 9), (3, 1, .t 10), (4, 1, .t 11)] },
  { dst := some 13, op := .call .pure (.c (.fn 193 [] [])) [.t 6, .t 12] },
  { dst := some 2, op := .mv (.t 13) }]))
 .ret))) }
def A_order_Ar : AFun := { res := [.t 2], body := (.seq (.reg false [{ dst := some 1, op := .boxI (.t 0) },
  { dst := some 2, op := .mv (.c (.nilp)) }])
 (.seq (.reg false [{ dst := some 3, op := .ld (some 8) (.t 1) },
  { dst := some 4, op := .mkfn 204 [] [.t 1] },
  { dst := some 5, op := .mkfn 205 [] [.t 1] },
  { dst := some 6, op := .mkfn 206 [] [.t 1] },
  { dst := some 7, op := .mkfn 208 [] [.t 1] },
  { dst := some 8, op := .mkfn 210 [] [.t 1] },
  { dst := some 9, op := .bsl true 5 (List.replicate 5 (.nilf)) [(0, 1, .t 4), (1, 1, .t 5), (2, 1, .t 6), (3, 1, .t 7), (4, 1, .t 8)] },
  { dst := some 10, op := .call .pure (.c (.fn 193 [] [])) [.t 3, .t 9] },
  { dst := some 2, op := .mv (.t 10) }])
 .ret)) }
def A_order_all : AFun := { res := [.t 4], body := (.seq (.reg false [{ dst := some 2, op := .box (.t 0) },
  { dst := some 4, op := .mv (.c (.nilp)) }])
 (.seq (.reg false [{ dst := some 8, op := .fa 1 (.t 2) },
  { dst := some 9, op := .ld none (.t 8) },
  { dst := some 10, op := .len (.t 9) },
  { dst := some 11, op := .call .pure (.c (.fn 11 [] [])) [.t 10, .c (.sl [] 0 .rig)] },
  { dst := some 5, op := .mv (.t 11) }])
 (.seq (.seq (.reg false [{ dst := some 12, op := .mv (.t 1) },
  { dst := some 13, op := .len (.t 12) },
  { dst := some 14, op := .mv (.c (.i .i64 0)) }])
 (.blk 0 (.loop (.seq (.reg false [{ dst := some 15, op := .bin .lss (.t 14) (.t 13) }])
 (.seq (.cond (.t 15) .skip
 (.ext 0))
 (.seq (.blk 1 (.seq (.reg false [{ dst := some 16, op := .ia 1 (.t 12) (.t 14) },
  { dst := some 17, op := .ld none (.t 16) },
  { dst := some 7, op := .mv (.t 17) }])
 (.reg false [{ dst := some 18, op := .mv (.t 5) },
  { dst := some 19, op := .mv (.t 7) },
  { dst := some 20, op := .call .pure (.t 19) [] },
  { dst := some 21, op := .call .pure (.c (.fn 24 [] [])) [.t 18, .t 20] },
  { dst := some 5, op := .mv (.t 21) }])))
 (.reg false [{ dst := some 22, op := .bin .add (.t 14) (.c (.i .i64 1)) },
  { dst := some 14, op := .mv (.t 22) }])))))))
 (.seq (.reg false [{ dst := some 23, op := .mv (.t 5) },
  { dst := some 4, op := .mv (.t 23) }])
 .ret)))) }
def A_order_Bob_1 : AFun := { res := [.t 2], body := (.seq (.reg false [{ dst := some 2, op := .mv (.c (.nilp)) }])
 (.seq (.reg true [{ dst := some 3, op := .ld none (.t 0), pre := [] },
  { dst := some 4, op := .ld (some 8) (.t 1), pre := [] },
  { dst := some 5, op := .call .pure (.c (.fn 195 [] [])) [.t 4, .c (.fn 196 [] [])], pre := [] },
  { dst := some 6, op := .call .pure (.c (.fn 23 [] [])) [.t 3, .t 5], pre := [] },
  { dst := some 2, op := .mv (.t 6) }])
 .ret)) }
def A_order_set : AFun := { res := [.t 4], body := (.seq (.reg false [{ dst := some 2, op := .box (.t 0) },
  { dst := some 4, op := .mv (.c (.nilp)) }])
 (.seq (.reg false [{ dst := some 5, op := .ld (some 8) (.t 2) },
  { dst := some 6, op := .mv (.t 1) },
  { dst := some 7, op := .call .pure (.c (.fn 166 [] [])) [.t 5, .t 6] },
  { dst := some 4, op := .mv (.t 7) }])
 .ret)) }
def A_order_isRel : AFun := { res := [.t 2], body := (.seq (.reg false [{ dst := some 1, op := .box (.t 0) },
  { dst := some 2, op := .mv (.c (.b false)) }])
 (.seq (.reg false [{ dst := some 3, op := .ld (some 6) (.t 1) },
  { dst := some 4, op := .call .pure (.c (.fn 203 [] [])) [.t 3] },
  { dst := some 5, op := .mv (.t 4) },
  { dst := some 6, op := .fa 2 (.t 1), grd := some (5, true) },
  { dst := some 7, op := .ld none (.t 6), grd := some (5, true) },
  { dst := some 8, op := .bin .eql (.t 7) (.c (.i .i64 2)), grd := some (5, true) },
  { dst := some 9, op := .pick (.t 5) (.t 8) (.c (.b false)) },
  { dst := some 2, op := .mv (.t 9) }])
 .ret)) }
def A_order_Bob_2 : AFun := { res := [.t 2], body := (.seq (.reg false [{ dst := some 2, op := .mv (.c (.nilp)) }])
 (.seq (.reg true [{ dst := some 3, op := .ld (some 8) (.t 0), pre := [] },
  { dst := some 4, op := .call .pure (.c (.fn 195 [] [])) [.t 3, .c (.fn 198 [] [])], pre := [] },
  { dst := some 5, op := .ld none (.t 1), pre := [] },
  { dst := some 6, op := .call .pure (.c (.fn 23 [] [])) [.t 4, .t 5], pre := [] },
  { dst := some 2, op := .mv (.t 6) }])
 .ret)) }
def A_order_isAcq : AFun := { res := [.t 2], body := (.seq (.reg false [{ dst := some 1, op := .box (.t 0) },
  { dst := some 2, op := .mv (.c (.b false)) }])
 (.seq (.reg false [{ dst := some 3, op := .ld (some 6) (.t 1) },
  { dst := some 4, op := .call .pure (.c (.fn 240 [] [])) [.t 3] },
  { dst := some 5, op := .mv (.t 4) },
  { dst := some 6, op := .fa 2 (.t 1), grd := some (5, true) },
  { dst := some 7, op := .ld none (.t 6), grd := some (5, true) },
  { dst := some 8, op := .bin .eql (.t 7) (.c (.i .i64 1)), grd := some (5, true) },
  { dst := some 9, op := .pick (.t 5) (.t 8) (.c (.b false)) },
  { dst := some 2, op := .mv (.t 9) }])
 .ret)) }
def A_order_Bob_3 : AFun := { res := [.t 2], body := (.seq (.reg false [{ dst := some 2, op := .mv (.c (.nilp)) }])
 (.seq (.reg true [{ dst := some 3, op := .ld none (.t 0), pre := [] },
  { dst := some 4, op := .ld (some 8) (.t 1), pre := [] },
  { dst := some 5, op := .call .pure (.c (.fn 195 [] [])) [.t 4, .c (.fn 200 [] [])], pre := [] },
  { dst := some 6, op := .call .pure (.c (.fn 23 [] [])) [.t 3, .t 5], pre := [] },
  { dst := some 2, op := .mv (.t 6) }])
 .ret)) }
def A_order_isF : AFun := { res := [.t 2], body := (.seq (.reg false [{ dst := some 1, op := .box (.t 0) },
  { dst := some 2, op := .mv (.c (.b false)) }])
 (.seq (.reg false [{ dst := some 3, op := .fa 1 (.t 1) },
  { dst := some 4, op := .ld none (.t 3) },
  { dst := some 5, op := .bin .eql (.t 4) (.c (.i .i64 3)) },
  { dst := some 2, op := .mv (.t 5) }])
 .ret)) }
def A_order_Bob_4 : AFun := { res := [.t 2], body := (.seq (.reg false [{ dst := some 2, op := .mv (.c (.nilp)) }])
 (.seq (.reg true [{ dst := some 3, op := .ld (some 8) (.t 0), pre := [] },
  { dst := some 4, op := .call .pure (.c (.fn 195 [] [])) [.t 3, .c (.fn 200 [] [])], pre := [] },
  { dst := some 5, op := .ld none (.t 1), pre := [] },
  { dst := some 6, op := .call .pure (.c (.fn 23 [] [])) [.t 4, .t 5], pre := [] },
  { dst := some 2, op := .mv (.t 6) }])
 .ret)) }
def A_order_Bob_5 : AFun := { res := [.t 1], body := (.seq (.reg false [{ dst := some 1, op := .mv (.c (.nilp)) }])
 (.seq (.reg true [{ dst := some 2, op := .ld (some 8) (.t 0), pre := [] },
  { dst := some 3, op := .call .pure (.c (.fn 195 [] [])) [.t 2, .c (.fn 196 [] [])], pre := [] },
  { dst := some 4, op := .ld (some 8) (.t 0), pre := [] },
  { dst := some 5, op := .call .pure (.c (.fn 41 [] [])) [.t 4], pre := [] },
  { dst := some 6, op := .call .pure (.c (.fn 23 [] [])) [.t 3, .t 5], pre := [] },
  { dst := some 7, op := .ld (some 8) (.t 0), pre := [] },
  { dst := some 8, op := .call .pure (.c (.fn 195 [] [])) [.t 7, .c (.fn 203 [] [])], pre := [] },
  { dst := some 9, op := .call .pure (.c (.fn 23 [] [])) [.t 6, .t 8], pre := [] },
  { dst := some 1, op := .mv (.t 9) }])
 .ret)) }
def A_order_isW : AFun := { res := [.t 2], body := (.seq (.reg false [{ dst := some 1, op := .box (.t 0) },
  { dst := some 2, op := .mv (.c (.b false)) }])
 (.seq (.reg false [{ dst := some 3, op := .fa 1 (.t 1) },
  { dst := some 4, op := .ld none (.t 3) },
  { dst := some 5, op := .bin .eql (.t 4) (.c (.i .i64 2)) },
  { dst := some 2, op := .mv (.t 5) }])
 .ret)) }
def A_order_Ar_1 : AFun := { res := [.t 1], body := (.seq (.reg false [{ dst := some 1, op := .mv (.c (.nilp)) }])
 (.seq (.reg true [{ dst := some 2, op := .ld (some 8) (.t 0), pre := [] },
  { dst := some 3, op := .ld (some 8) (.t 0), pre := [] },
  { dst := some 4, op := .call .pure (.c (.fn 48 [] [])) [.t 3], pre := [] },
  { dst := some 5, op := .call .pure (.c (.fn 40 [] [])) [.t 2, .t 4], pre := [] },
  { dst := some 1, op := .mv (.t 5) }])
 .ret)) }
def A_order_Ar_2 : AFun := { res := [.t 1], body := (.seq (.reg false [{ dst := some 1, op := .mv (.c (.nilp)) }])
 (.seq (.reg false [{ dst := some 2, op := .ld (some 8) (.t 0) },
  { dst := some 3, op := .call .pure (.c (.fn 155 [] [])) [.t 2] },
  { dst := some 1, op := .mv (.t 3) }])
 .ret)) }
def A_order_Ar_3 : AFun := { res := [.t 1], body := (.seq (.reg false [{ dst := some 1, op := .mv (.c (.nilp)) }])
 (.seq (.reg false [{ dst := some 2, op := .ld (some 8) (.t 0) },
  { dst := some 3, op := .call .pure (.c (.fn 207 [] [])) [.t 2] },
  { dst := some 1, op := .mv (.t 3) }])
 .ret)) }
def A_order_Ppo : AFun := { res := [.t 2], body := (.seq (.reg false [{ dst := some 1, op := .box (.t 0) },
  { dst := some 2, op := .mv (.c (.nilp)) }])
 (.seq (.reg true [{ dst := some 4, op := .ld (some 8) (.t 1), pre := [] },
  { dst := some 5, op := .call .pure (.c (.fn 213 [] [])) [.t 4], pre := [] },
  { dst := some 6, op := .ld (some 8) (.t 1), pre := [] },
  { dst := some 7, op := .ld (some 8) (.t 1), pre := [] },
  { dst := some 8, op := .call .pure (.c (.fn 48 [] [])) [.t 7], pre := [] },
  { dst := some 9, op := .call .pure (.c (.fn 39 [] [])) [.t 6, .t 8], pre := [] },
  { dst := some 10, op := .call .pure (.c (.fn 24 [] [])) [.t 5, .t 9], pre := [] },
  { dst := some 11, op := .call .pure (.c (.fn 12 [] [])) [.t 10], pre := [] },
  { dst := some 3, op := .mv (.t 11) }])
 (.seq (.reg true [{ dst := some 12, op := .ld (some 8) (.t 1), pre := [] },
  { dst := some 13, op := .call .pure (.c (.fn 195 [] [])) [.t 12, .c (.fn 240 [] [])], pre := [] },
  { dst := some 14, op := .mv (.t 3) },
  { dst := some 15, op := .call .pure (.c (.fn 23 [] [])) [.t 13, .t 14], pre := [] },
  { dst := some 16, op := .ld (some 8) (.t 1), pre := [] },
  { dst := some 17, op := .call .pure (.c (.fn 195 [] [])) [.t 16, .c (.fn 203 [] [])], pre := [] },
  { dst := some 18, op := .call .pure (.c (.fn 23 [] [])) [.t 15, .t 17], pre := [] },
  { dst := some 2, op := .mv (.t 18) }])
 .ret))) }
def A_order_Ar_4 : AFun := { res := [.t 1], body := (.seq (.reg false [{ dst := some 1, op := .mv (.c (.nilp)) }])
 (.seq (.reg false [{ dst := some 2, op := .ld (some 8) (.t 0) },
  { dst := some 3, op := .call .pure (.c (.fn 209 [] [])) [.t 2] },
  { dst := some 1, op := .mv (.t 3) }])
 .ret)) }
def A_order_Detour : AFun := { res := [.t 2], body := (.seq (.reg false [{ dst := some 1, op := .box (.t 0) },
  { dst := some 2, op := .mv (.c (.nilp)) }])
 (.seq (.reg true [{ dst := some 4, op := .ld (some 8) (.t 1), pre := [] },
  { dst := some 5, op := .ld (some 8) (.t 1), pre := [] },
  { dst := some 6, op := .call .pure (.c (.fn 49 [] [])) [.t 5], pre := [] },
  { dst := some 7, op := .call .pure (.c (.fn 40 [] [])) [.t 4, .t 6], pre := [] },
  { dst := some 8, op := .ld (some 8) (.t 1), pre := [] },
  { dst := some 9, op := .ld (some 8) (.t 1), pre := [] },
  { dst := some 10, op := .call .pure (.c (.fn 48 [] [])) [.t 9], pre := [] },
  { dst := some 11, op := .call .pure (.c (.fn 40 [] [])) [.t 8, .t 10], pre := [] },
  { dst := some 12, op := .call .pure (.c (.fn 23 [] [])) [.t 7, .t 11], pre := [] },
  { dst := some 3, op := .mv (.t 12) }])
 (.seq (.reg false [{ dst := some 13, op := .mv (.t 3) },
  { dst := some 14, op := .ld (some 8) (.t 1) },
  { dst := some 15, op := .call .pure (.c (.fn 60 [] [])) [.t 14] },
  { dst := some 16, op := .call .pure (.c (.fn 18 [] [])) [.t 13, .t 15] },
  { dst := some 2, op := .mv (.t 16) }])
 .ret))) }
def A_order_Ar_5 : AFun := { res := [.t 1], body := (.seq (.reg false [{ dst := some 1, op := .mv (.c (.nilp)) }])
 (.seq (.reg false [{ dst := some 2, op := .ld (some 8) (.t 0) },
  { dst := some 3, op := .call .pure (.c (.fn 211 [] [])) [.t 2] },
  { dst := some 1, op := .mv (.t 3) }])
 .ret)) }
def A_order_Psc : AFun := { res := [.t 2], body := (.seq (.reg false [{ dst := some 1, op := .box (.t 0) },
  { dst := some 2, op := .mv (.c (.nilp)) }])
 (.seq (.reg true [{ dst := some 5, op := .ld (some 8) (.t 1), pre := [] },
  { dst := some 6, op := .call .pure (.c (.fn 195 [] [])) [.t 5, .c (.fn 241 [] [])], pre := [] },
  { dst := some 7, op := .ld (some 8) (.t 1), pre := [] },
  { dst := some 8, op := .call .pure (.c (.fn 148 [] [])) [.t 7], pre := [] },
  { dst := some 3, op := .mv (.t 6) },
  { dst := some 4, op := .mv (.t 8) }])
 (.seq (.reg true [{ dst := some 9, op := .mv (.t 3) },
  { dst := some 10, op := .mv (.t 4) },
  { dst := some 11, op := .call .pure (.c (.fn 23 [] [])) [.t 9, .t 10], pre := [] },
  { dst := some 12, op := .ld (some 8) (.t 1), pre := [] },
  { dst := some 13, op := .call .pure (.c (.fn 42 [] [])) [.t 12], pre := [] },
  { dst := some 14, op := .call .pure (.c (.fn 23 [] [])) [.t 11, .t 13], pre := [] },
  { dst := some 15, op := .mv (.t 4) },
  { dst := some 16, op := .call .pure (.c (.fn 23 [] [])) [.t 14, .t 15], pre := [] },
  { dst := some 17, op := .mv (.t 3) },
  { dst := some 18, op := .call .pure (.c (.fn 23 [] [])) [.t 16, .t 17], pre := [] },
  { dst := some 2, op := .mv (.t 18) }])
 .ret))) }
def A_order_Deps : AFun := { res := [.t 2], body := (.seq (.reg false [{ dst := some 1, op := .boxI (.t 0) },
  { dst := some 2, op := .mv (.c (.nilp)) }])
 (.seq (.reg false [{ dst := some 3, op := .ld (some 8) (.t 1) },
  { dst := some 4, op := .mkfn 242 [] [.t 1] },
  { dst := some 5, op := .mkfn 243 [] [.t 1] },
  { dst := some 6, op := .mkfn 244 [] [.t 1] },
  { dst := some 7, op := .bsl true 3 ([.nilf, .nilf, .nilf]) [(0, 1, .t 4), (1, 1, .t 5), (2, 1, .t 6)] },
  { dst := some 8, op := .call .pure (.c (.fn 193 [] [])) [.t 3, .t 7] },
  { dst := some 2, op := .mv (.t 8) }])
 .ret)) }
def A_order_isR : AFun := { res := [.t 2], body := (.seq (.reg false [{ dst := some 1, op := .box (.t 0) },
  { dst := some 2, op := .mv (.c (.b false)) }])
 (.seq (.reg false [{ dst := some 3, op := .fa 1 (.t 1) },
  { dst := some 4, op := .ld none (.t 3) },
  { dst := some 5, op := .bin .eql (.t 4) (.c (.i .i64 1)) },
  { dst := some 2, op := .mv (.t 5) }])
 .ret)) }
def A_order_isSc : AFun := { res := [.t 2], body := (.seq (.reg false [{ dst := some 1, op := .box (.t 0) },
  { dst := some 2, op := .mv (.c (.b false)) }])
 (.seq (.reg false [{ dst := some 3, op := .ld (some 6) (.t 1) },
  { dst := some 4, op := .call .pure (.c (.fn 200 [] [])) [.t 3] },
  { dst := some 5, op := .mv (.t 4) },
  { dst := some 6, op := .fa 2 (.t 1), grd := some (5, true) },
  { dst := some 7, op := .ld none (.t 6), grd := some (5, true) },
  { dst := some 8, op := .bin .eql (.t 7) (.c (.i .i64 4)), grd := some (5, true) },
  { dst := some 9, op := .pick (.t 5) (.t 8) (.c (.b false)) },
  { dst := some 2, op := .mv (.t 9) }])
 .ret)) }
def A_order_Deps_1 : AFun := { res := [.t 1], body := (.seq (.reg false [{ dst := some 1, op := .mv (.c (.nilp)) }])
 (.seq (.reg false [{ dst := some 2, op := .ld (some 8) (.t 0) },
  { dst := some 3, op := .fa 5 (.t 0) },
  { dst := some 4, op := .ld none (.t 3) },
  { dst := some 5, op := .call .pure (.c (.fn 81 [] [])) [.t 2, .t 4] },
  { dst := some 1, op := .mv (.t 5) }])
 .ret)) }
def A_order_Deps_2 : AFun := { res := [.t 1], body := (.seq (.reg false [{ dst := some 1, op := .mv (.c (.nilp)) }])
 (.seq (.reg false [{ dst := some 2, op := .ld (some 8) (.t 0) },
  { dst := some 3, op := .fa 6 (.t 0) },
  { dst := some 4, op := .ld none (.t 3) },
  { dst := some 5, op := .call .pure (.c (.fn 81 [] [])) [.t 2, .t 4] },
  { dst := some 1, op := .mv (.t 5) }])
 .ret)) }
def A_order_Deps_3 : AFun := { res := [.t 1], body := (.seq (.reg false [{ dst := some 1, op := .mv (.c (.nilp)) }])
 (.seq (.reg true [{ dst := some 2, op := .ld (some 8) (.t 0), pre := [] },
  { dst := some 3, op := .call .pure (.c (.fn 195 [] [])) [.t 2, .c (.fn 245 [] [])], pre := [] },
  { dst := some 4, op := .ld (some 8) (.t 0), pre := [] },
  { dst := some 5, op := .call .pure (.c (.fn 60 [] [])) [.t 4], pre := [] },
  { dst := some 6, op := .call .pure (.c (.fn 23 [] [])) [.t 3, .t 5], pre := [] },
  { dst := some 1, op := .mv (.t 6) }])
 .ret)) }
def A_order_isEx : AFun := { res := [.t 2], body := (.seq (.reg false [{ dst := some 1, op := .box (.t 0) },
  { dst := some 2, op := .mv (.c (.b false)) }])
 (.seq (.reg false [{ dst := some 3, op := .ld (some 6) (.t 1) },
  { dst := some 4, op := .call .pure (.c (.fn 240 [] [])) [.t 3] },
  { dst := some 5, op := .mv (.t 4) },
  { dst := some 6, op := .fa 5 (.t 1), grd := some (5, true) },
  { dst := some 7, op := .ld none (.t 6), grd := some (5, true) },
  { dst := some 8, op := .pick (.t 5) (.t 7) (.c (.b false)) },
  { dst := some 2, op := .mv (.t 8) }])
 .ret)) }
structure Pk_order (F : Funs) : Prop where
  order_Bob : F 155 = some A_order_Bob
  order_Ar : F 156 = some A_order_Ar
  order_all : F 193 = some A_order_all
  order_Bob_1 : F 194 = some A_order_Bob_1
  order_set : F 195 = some A_order_set
  order_isRel : F 196 = some A_order_isRel
  order_Bob_2 : F 197 = some A_order_Bob_2
  order_isAcq : F 198 = some A_order_isAcq
  order_Bob_3 : F 199 = some A_order_Bob_3
  order_isF : F 200 = some A_order_isF
  order_Bob_4 : F 201 = some A_order_Bob_4
  order_Bob_5 : F 202 = some A_order_Bob_5
  order_isW : F 203 = some A_order_isW
  order_Ar_1 : F 204 = some A_order_Ar_1
  order_Ar_2 : F 205 = some A_order_Ar_2
  order_Ar_3 : F 206 = some A_order_Ar_3
  order_Ppo : F 207 = some A_order_Ppo
  order_Ar_4 : F 208 = some A_order_Ar_4
  order_Detour : F 209 = some A_order_Detour
  order_Ar_5 : F 210 = some A_order_Ar_5
  order_Psc : F 211 = some A_order_Psc
  order_Deps : F 213 = some A_order_Deps
  order_isR : F 240 = some A_order_isR
  order_isSc : F 241 = some A_order_isSc
  order_Deps_1 : F 242 = some A_order_Deps_1
  order_Deps_2 : F 243 = some A_order_Deps_2
  order_Deps_3 : F 244 = some A_order_Deps_3
  order_isEx : F 245 = some A_order_isEx
end Go.Ab
end
section
set_option linter.unusedVariables false
set_option linter.unusedSimpArgs false
namespace Go.Ab
variable {F : Funs}
structure OrdF (F : Funs) : Prop where
  po : Pk_order F
  sy : SyncF F
section
variable (S : OrdF F)
include S
end
section
variable (X : Gr)
end
section
variable (S : OrdF F) {X : Gr} (hX : Few X)
include S hX
end
end Go.Ab
end
section
namespace Go.Ab
def A_imm_Consistent : AFun := { res := [.t 2], body := (.seq (.reg false [{ dst := some 1, op := .box (.t 0) },
  { dst := some 2, op := .mv (.c (.b false)) }])
 (.seq (.seq (.reg false [{ dst := some 6, op := .ld (some 8) (.t 1) },
  { dst := some 7, op := .call .pure (.c (.fn 152 [] [])) [.t 6] },
  { dst := some 8, op := .un .not (.t 7) }])
 (.cond (.t 8) (.seq (.reg false [{ dst := some 2, op := .mv (.c (.b false)) }])
 .ret)
 .skip))
 (.seq (.reg false [{ dst := some 9, op := .ld (some 8) (.t 1) },
  { dst := some 10, op := .build ([.i .i64 0] ++ List.replicate 7 (.sl [] 0 .rig)) [(0, 8, .t 9)] },
  { dst := some 3, op := .new ([.i .i64 0] ++ List.replicate 7 (.sl [] 0 .rig)) },
  { dst := none, op := .st 8 (.t 3) (.t 10) }])
 (.seq (.seq (.reg false [{ dst := some 11, op := .ld (some 8) (.t 3) },
  { dst := some 12, op := .mkfn 214 [.t 11] [] },
  { dst := some 13, op := .build ([.nilf]) [(0, 1, .t 12)] },
  { dst := some 14, op := .ld (some 8) (.t 3) },
  { dst := some 15, op := .mkfn 215 [.t 14] [] },
  { dst := some 16, op := .build ([.nilf]) [(0, 1, .t 15)] },
  { dst := some 17, op := .ld (some 8) (.t 3) },
  { dst := some 18, op := .mkfn 216 [.t 17] [] },
  { dst := some 19, op := .build ([.nilf]) [(0, 1, .t 18)] },
  { dst := some 20, op := .bsl true 3 ([.nilf, .nilf, .nilf]) [(0, 1, .t 13), (1, 1, .t 16), (2, 1, .t 19)] },
  { dst := some 21, op := .len (.t 20) },
  { dst := some 22, op := .mv (.c (.i .i64 0)) }])
 (.blk 0 (.loop (.seq (.reg false [{ dst := some 23, op := .bin .lss (.t 22) (.t 21) }])
 (.seq (.cond (.t 23) .skip
 (.ext 0))
 (.seq (.blk 1 (.seq (.reg false [{ dst := some 24, op := .ia 1 (.t 20) (.t 22) },
  { dst := some 25, op := .ld (some 1) (.t 24) },
  { dst := some 5, op := .new ([.nilf]) },
  { dst := none, op := .st 1 (.t 5) (.t 25) }])
 (.seq (.reg false [{ dst := some 26, op := .fa 0 (.t 5) },
  { dst := some 27, op := .ld none (.t 26) },
  { dst := some 28, op := .call .pure (.t 27) [] },
  { dst := some 29, op := .un .not (.t 28) }])
 (.cond (.t 29) (.seq (.reg false [{ dst := some 2, op := .mv (.c (.b false)) }])
 .ret)
 .skip))))
 (.reg false [{ dst := some 30, op := .bin .add (.t 22) (.c (.i .i64 1)) },
  { dst := some 22, op := .mv (.t 30) }])))))))
 (.seq (.reg false [{ dst := some 2, op := .mv (.c (.b true)) }])
 .ret))))) }
def A_imm_Atomic : AFun := { res := [.t 2], body := (.seq (.reg false [{ dst := some 1, op := .box (.t 0) },
  { dst := some 2, op := .mv (.c (.b false)) }])
 (.seq (.reg false [{ dst := some 3, op := .ld (some 8) (.t 1) },
  { dst := some 4, op := .build ([.i .i64 0] ++ List.replicate 7 (.sl [] 0 .rig)) [(0, 8, .t 3)] },
  { dst := some 5, op := .call .pure (.c (.fn 215 [] [])) [.t 4] },
  { dst := some 2, op := .mv (.t 5) }])
 .ret)) }
def A_imm_Coherent : AFun := { res := [.t 2], body := (.seq (.reg false [{ dst := some 1, op := .box (.t 0) },
  { dst := some 2, op := .mv (.c (.b false)) }])
 (.seq (.reg false [{ dst := some 3, op := .ld (some 8) (.t 1) },
  { dst := some 4, op := .build ([.i .i64 0] ++ List.replicate 7 (.sl [] 0 .rig)) [(0, 8, .t 3)] },
  { dst := some 5, op := .call .pure (.c (.fn 214 [] [])) [.t 4] },
  { dst := some 2, op := .mv (.t 5) }])
 .ret)) }
def A_imm_looked_coherent : AFun := { res := [.t 2], body := (.seq (.reg false [{ dst := some 1, op := .box (.t 0) },
  { dst := some 2, op := .mv (.c (.b false)) }])
 (.seq (.reg false [{ dst := some 6, op := .fa 0 (.t 1) },
  { dst := some 7, op := .ld (some 8) (.t 6) },
  { dst := some 8, op := .call .pure (.c (.fn 148 [] [])) [.t 7] },
  { dst := some 3, op := .mv (.t 8) }])
 (.seq (.reg false [{ dst := some 9, op := .mv (.t 3) },
  { dst := some 10, op := .mv (.t 3) },
  { dst := some 11, op := .fa 0 (.t 1) },
  { dst := some 12, op := .ld (some 8) (.t 11) },
  { dst := some 13, op := .call .pure (.c (.fn 42 [] [])) [.t 12] },
  { dst := some 14, op := .call .pure (.c (.fn 23 [] [])) [.t 10, .t 13] },
  { dst := some 15, op := .call .pure (.c (.fn 24 [] [])) [.t 9, .t 14] },
  { dst := some 4, op := .mv (.t 15) }])
 (.seq (.seq (.reg false [{ dst := some 16, op := .fa 0 (.t 1) },
  { dst := some 17, op := .fa 1 (.t 16) },
  { dst := some 18, op := .ld none (.t 17) },
  { dst := some 19, op := .len (.t 18) },
  { dst := some 20, op := .mv (.c (.i .i64 0)) }])
 (.blk 0 (.loop (.seq (.reg false [{ dst := some 21, op := .bin .lss (.t 20) (.t 19) }])
 (.seq (.cond (.t 21) .skip
 (.ext 0))
 (.seq (.blk 1 (.seq (.reg false [{ dst := some 22, op := .mv (.t 20) },
  { dst := some 5, op := .mv (.t 22) }])
 (.seq (.reg false [{ dst := some 23, op := .mv (.t 4) },
  { dst := some 24, op := .mv (.t 5) },
  { dst := some 25, op := .mv (.t 5) },
  { dst := some 26, op := .call .pure (.c (.fn 13 [] [])) [.t 23, .t 24, .t 25] }])
 (.cond (.t 26) (.seq (.reg false [{ dst := some 2, op := .mv (.c (.b false)) }])
 .ret)
 .skip))))
 (.reg false [{ dst := some 27, op := .bin .add (.t 20) (.c (.i .i64 1)) },
  { dst := some 20, op := .mv (.t 27) }])))))))
 (.seq (.reg false [{ dst := some 2, op := .mv (.c (.b true)) }])
 .ret))))) }
def A_imm_looked_atomic : AFun := { res := [.t 2], body := (.seq (.reg false [{ dst := some 1, op := .box (.t 0) },
  { dst := some 2, op := .mv (.c (.b false)) }])
 (.seq (.reg false [{ dst := some 5, op := .fa 0 (.t 1) },
  { dst := some 6, op := .ld (some 8) (.t 5) },
  { dst := some 3, op := .new ([.i .i64 0] ++ List.replicate 7 (.sl [] 0 .rig)) },
  { dst := none, op := .st 8 (.t 3) (.t 6) }])
 (.seq (.reg true [{ dst := some 7, op := .ld (some 8) (.t 3), pre := [] },
  { dst := some 8, op := .ld (some 8) (.t 3), pre := [] },
  { dst := some 9, op := .call .pure (.c (.fn 50 [] [])) [.t 8], pre := [] },
  { dst := some 10, op := .call .pure (.c (.fn 40 [] [])) [.t 7, .t 9], pre := [] },
  { dst := some 11, op := .ld (some 8) (.t 3), pre := [] },
  { dst := some 12, op := .ld (some 8) (.t 3), pre := [] },
  { dst := some 13, op := .call .pure (.c (.fn 49 [] [])) [.t 12], pre := [] },
  { dst := some 14, op := .call .pure (.c (.fn 40 [] [])) [.t 11, .t 13], pre := [] },
  { dst := some 15, op := .call .pure (.c (.fn 23 [] [])) [.t 10, .t 14], pre := [] },
  { dst := some 4, op := .mv (.t 15) }])
 (.seq (.reg false [{ dst := some 16, op := .ld (some 8) (.t 3) },
  { dst := some 17, op := .fa 4 (.t 3) },
  { dst := some 18, op := .ld none (.t 17) },
  { dst := some 19, op := .call .pure (.c (.fn 81 [] [])) [.t 16, .t 18] },
  { dst := some 20, op := .mv (.t 4) },
  { dst := some 21, op := .call .pure (.c (.fn 18 [] [])) [.t 19, .t 20] },
  { dst := some 22, op := .call .pure (.c (.fn 15 [] [])) [.t 21] },
  { dst := some 23, op := .len (.t 22) },
  { dst := some 24, op := .bin .eql (.t 23) (.c (.i .i64 0)) },
  { dst := some 2, op := .mv (.t 24) }])
 .ret)))) }
def A_imm_looked_ordered : AFun := { res := [.t 2], body := (.seq (.reg false [{ dst := some 1, op := .box (.t 0) },
  { dst := some 2, op := .mv (.c (.b false)) }])
 (.seq (.reg false [{ dst := some 3, op := .fa 0 (.t 1) },
  { dst := some 4, op := .ld (some 8) (.t 3) },
  { dst := some 5, op := .call .pure (.c (.fn 156 [] [])) [.t 4] },
  { dst := some 6, op := .call .pure (.c (.fn 14 [] [])) [.t 5] },
  { dst := some 7, op := .un .not (.t 6) },
  { dst := some 2, op := .mv (.t 7) }])
 .ret)) }
def A_imm_Ordered : AFun := { res := [.t 2], body := (.seq (.reg false [{ dst := some 1, op := .box (.t 0) },
  { dst := some 2, op := .mv (.c (.b false)) }])
 (.seq (.reg false [{ dst := some 3, op := .ld (some 8) (.t 1) },
  { dst := some 4, op := .build ([.i .i64 0] ++ List.replicate 7 (.sl [] 0 .rig)) [(0, 8, .t 3)] },
  { dst := some 5, op := .call .pure (.c (.fn 216 [] [])) [.t 4] },
  { dst := some 2, op := .mv (.t 5) }])
 .ret)) }
structure Pk_imm (F : Funs) : Prop where
  imm_Consistent : F 161 = some A_imm_Consistent
  imm_Atomic : F 162 = some A_imm_Atomic
  imm_Coherent : F 164 = some A_imm_Coherent
  imm_looked_coherent : F 214 = some A_imm_looked_coherent
  imm_looked_atomic : F 215 = some A_imm_looked_atomic
  imm_looked_ordered : F 216 = some A_imm_looked_ordered
  imm_Ordered : F 217 = some A_imm_Ordered
end Go.Ab
end
section
set_option linter.unusedVariables false
set_option linter.unusedSimpArgs false
namespace Go.Ab
variable {F : Funs}
structure ImmF (F : Funs) : Prop where
  o : OrdF F
  im : Pk_imm F
  gr : GrFs F
section
variable (X : Gr)
def atR : Rw := andR (newR (nOf X) X.rmw) (thenR (nOf X) (partR outer X (nOf X) (relE (frS X.co) X)) (partR outer X (nOf X) (relE (coS X.co) X)))
def atB : Bool := ((pairsR (nOf X) (atR X)).length : Int) == 0
end
section
variable (S : ImmF F) {X : Gr} (hX : Few X) (hL : LenG X)
include S hX hL
end
end Go.Ab
end
section
set_option linter.unusedVariables false
set_option linter.unusedSimpArgs false
set_option linter.unusedSectionVars false
namespace Go.Ab
variable {F : Funs}
theorem o_idx {call : CS} {al : Nat → Bool} {lo id : Nat} {e : Env} {g : G} (len esz : Nat) (agg : Option Nat) (x i : Opd) : opE call al lo id (.idx len esz agg x i) e g = vIdx len esz agg (x.ev e) (i.ev e) g := rfl
structure PowF (F : Funs) : Prop where
  pw : Pk_power F
  pp : PpoF F
  gr : GrFs F
def barP (m : Int) (e : Ev) : Bool := e.kd == 3 && e.md == m
section
variable (X : Gr)
def ownR (R : Rw) : Rw := thenR (nOf X) (setR X pMi) (partR inner X (nOf X) R)
def arndR (m : Int) : Rw := thenR (nOf X) (thenR (nOf X) (thenR (nOf X) (thenR (nOf X) (setR X pM) (ownR X (poR X))) (setR X (barP m))) (ownR X (poR X))) (setR X pM)
def psyR : Rw := arndR X 4
def pfeR : Rw := orR (psyR X) (lessR (arndR X 3) (thenR (nOf X) (thenR (nOf X) (setR X pW) (arndR X 3)) (setR X pR)))
def pcoR : Rw := orR (orR (rfR X) (relE (coS X.co) X)) (relE (frS X.co) X)
def phbR : Rw := orR (orR (ppoR X) (pfeR X)) (partR outer X (nOf X) (rfR X))
def panR (R : Rw) : Rw := orR (plusR (nOf X) R) (maybeK (nOf X) (newR (nOf X) []))
def pbaR : Rw := thenR (nOf X) (orR (pfeR X) (thenR (nOf X) (partR outer X (nOf X) (rfR X)) (pfeR X))) (panR X (phbR X))
def pprR : Rw := orR (thenR (nOf X) (thenR (nOf X) (setR X pW) (pbaR X)) (setR X pW)) (thenR (nOf X) (thenR (nOf X) (thenR (nOf X) (panR X (pcoR X)) (panR X (pbaR X))) (psyR X)) (panR X (phbR X)))
def pc1B : Bool := !loopsR (nOf X) (orR (ownR X (locR X)) (pcoR X))
def pc3B : Bool := !loopsR (nOf X) (phbR X)
def pfrR : Rw := thenR (nOf X) (thenR (nOf X) (partR outer X (nOf X) (relE (frS X.co) X)) (pprR X)) (panR X (phbR X))
def pc4B : Bool := allN X.evs.length fun i => !has (nOf X) (pfrR X) i i
def pc5B : Bool := !loopsR (nOf X) (orR (relE (coS X.co) X) (pprR X))
def pcnB : Bool := gCheck X && (pc1B X && (atB X && (pc3B X && (pc4B X && pc5B X))))
end
section
variable (S : PowF F)
include S
set_option maxRecDepth 100000 in
theorem pw_isR (e : Ev) : pureS F 325 [.agg (evC e)] = some (.b (pR e)) := by
  refine pure_of S.pw.power_isR ?_
  simp (disch := omega) only [A_power_isR, wp, Nat.reduceAdd, Nat.reduceMul, Nat.reduceSub, gl]
  rfl
set_option maxRecDepth 100000 in
theorem pw_isW (e : Ev) : pureS F 324 [.agg (evC e)] = some (.b (pW e)) := by
  refine pure_of S.pw.power_isW ?_
  simp (disch := omega) only [A_power_isW, wp, Nat.reduceAdd, Nat.reduceMul, Nat.reduceSub, gl]
  rfl
set_option maxRecDepth 100000 in
theorem pw_isM (e : Ev) : pureS F 349 [.agg (evC e)] = some (.b (pM e)) := by
  refine pure_of S.pw.power_isM ?_
  unfold pM
  cases h1 : (e.kd == 1) with
  | true => simp (disch := omega) only [A_power_isM, wp, Nat.reduceAdd, Nat.reduceMul, Nat.reduceSub, gl, h1]
  | false => simp (disch := omega) only [A_power_isM, wp, Nat.reduceAdd, Nat.reduceMul, Nat.reduceSub, gl, h1]
set_option maxRecDepth 100000 in
theorem pw_isMi (e : Ev) : pureS F 348 [.agg (evC e)] = some (.b (pMi e)) := by
  refine pure_of S.pw.power_own_1 ?_
  simp (disch := omega) only [A_power_own_1, wp, Nat.reduceAdd, Nat.reduceMul, Nat.reduceSub, gl]
  rfl
set_option maxRecDepth 100000 in
theorem pw_bar (m : Int) (e : Ev) : pureS F 350 [.agg (evC e), .ptr [.i .i64 m]] = some (.b (barP m e)) := by
  refine pure_of S.pw.power_around_1 ?_
  unfold barP
  cases h1 : (e.kd == 3) with
  | true => simp (disch := omega) only [A_power_around_1, wp, Nat.reduceAdd, Nat.reduceMul, Nat.reduceSub, gl, h1]
  | false => simp (disch := omega) only [A_power_around_1, wp, Nat.reduceAdd, Nat.reduceMul, Nat.reduceSub, gl, h1]
set_option maxRecDepth 100000 in
set_option maxHeartbeats 4000000 in
theorem pw_thenL {n : Nat} (hn : n ≤ 40) (R : Rw) (l : List Rw) (hl : l.length ≤ 1000) (t : Tok) : pureS F 319 [.ptr (relC n R), .sl (relsC n l) l.length t] = some (.ptr (relC n (thenL n R l))) := by
  refine pure_of S.pw.power_then ?_
  simp (disch := omega) only [A_power_then, wp, Nat.reduceAdd, Nat.reduceMul, Nat.reduceSub, gl]
  refine W_loop (fun q e g => ∃ k, q = l.length - k ∧ k ≤ l.length ∧ e 0 = .ptr (relC n (thenL n R (l.take k))) ∧ e 7 = .sl (relsC n l) l.length t ∧ e 8 = .i .i64 l.length ∧ e 9 = .i .i64 k) l.length ?_ ?_
  · refine ⟨0, rfl, Nat.zero_le _, ?_⟩
    simp (disch := omega) only [wp, Nat.reduceAdd, Nat.reduceMul, Nat.reduceSub]
    exact ⟨by rfl, rfl⟩
  · rintro q e g ⟨k, rfl, hk, e0, e7, e8, e9⟩
    by_cases hk' : k < l.length
    · have hk1 : (k : Int) < l.length := by omega
      have hwk := succ_wrap (k := k) (by omega)
      have hp := rels_part (n := n) hk'
      have hs : thenL n R (l.take (k + 1)) = thenR n (thenL n R (l.take k)) (l.getD k fun _ => 0) := by
        unfold thenL
        rw [List.take_add_one, List.foldl_append, List.getElem?_eq_getElem hk', List.getD_eq_getElem?_getD, List.getElem?_eq_getElem hk']
        rfl
      generalize thenL n R (l.take k) = A at e0 hs
      generalize (l.getD k fun _ => 0) = B at hp hs
      simp (disch := omega) only [wp, Nat.reduceAdd, Nat.reduceMul, Nat.reduceSub, gl, e0, e7, e8, e9, hk1, hp, sp_then S.pp.pr hn hn, Nat.max_self, hwk]
      exact ⟨l.length - (k + 1), by omega, k + 1, rfl, by omega, by rw [hs], rfl⟩
    · obtain rfl : k = l.length := by omega
      have hk1 : ¬ ((l.length : Int) < l.length) := by omega
      rw [List.take_length] at e0
      simp (disch := omega) only [wp, Nat.reduceAdd, Nat.reduceMul, Nat.reduceSub, gl, e0, e7, e8, e9, hk1]
theorem pw_then2 {n : Nat} (hn : n ≤ 40) (R A B : Rw) : pureS F 319 [.ptr (relC n R), .sl [.ptr (relC n A), .ptr (relC n B)] 2 .non] = some (.ptr (relC n (thenR n (thenR n R A) B))) := pw_thenL S hn R [A, B] (by simp) .non
theorem pw_then3 {n : Nat} (hn : n ≤ 40) (R A B C : Rw) : pureS F 319 [.ptr (relC n R), .sl [.ptr (relC n A), .ptr (relC n B), .ptr (relC n C)] 3 .non] = some (.ptr (relC n (thenR n (thenR n (thenR n R A) B) C))) := pw_thenL S hn R [A, B, C] (by simp) .non
theorem pw_then4 {n : Nat} (hn : n ≤ 40) (R A B C D : Rw) : pureS F 319 [.ptr (relC n R), .sl [.ptr (relC n A), .ptr (relC n B), .ptr (relC n C), .ptr (relC n D)] 4 .non] = some (.ptr (relC n (thenR n (thenR n (thenR n (thenR n R A) B) C) D))) := pw_thenL S hn R [A, B, C, D] (by simp) .non
variable {X : Gr} (hX : Few X) (hL : LenG X)
include hX
set_option maxRecDepth 100000 in
theorem pw_own (R : Rw) : pureS F 312 [.agg (grC X), .ptr (relC (nOf X) R)] = some (.ptr (relC (nOf X) (ownR X R))) := by
  refine pure_of S.pw.power_own ?_
  have hn := nOf_le X
  simp (disch := omega) only [A_power_own, wp, Nat.reduceAdd, Nat.reduceMul, Nat.reduceSub, gl, sp_setF S.pp hX (pw_isMi S), sp_Inner S.pp.pe S.pp.gof S.pp.pr hn, sp_then S.pp.pr hn hn, Nat.max_self]
  rfl
theorem pw_po : pureS F 60 [.agg (grC X)] = some (.ptr (relC (nOf X) (poR X))) := sp_Po S.pp.po S.pp.gof S.pp.pr (by have := hX.1; omega)
theorem pw_setB (m : Int) : pureS F 166 [.agg (grC X), .fn 350 [] [.ptr [.i .i64 m]]] = some (.ptr (relC (nOf X) (setR X (barP m)))) :=
  sp_setE S.pp.set S.pp.gof S.pp.pr (by have := hX.1; omega) (pw_bar S m) (fun hp => by simp only [frzL_cons, frzL_nil, frz_d_ptr, consO_ok]) (fun hp => by simp only [List.flatMap_cons, List.flatMap_nil, vis_ptr, List.append_nil])
set_option maxRecDepth 100000 in
theorem pw_arnd (m : Int) : pureS F 323 [.agg (grC X), .i .i64 m] = some (.ptr (relC (nOf X) (arndR X m))) := by
  refine pure_of S.pw.power_around ?_
  have hn := nOf_le X
  have hfn : ∀ hp, frz hp depth (.fn 350 [] [.ptr [.i .i64 m]]) = some (.fn 350 [] [.ptr [.i .i64 m]]) := fun hp => by
    show frz hp (8 + 1) _ = _
    simp only [frz, frzL]
  have hvn : ∀ hp, vis hp depth (.fn 350 [] [.ptr [.i .i64 m]]) = [] := fun hp => by
    show vis hp (8 + 1) _ = _
    simp only [vis, List.flatMap_cons, List.flatMap_nil, List.append_nil]
  have r4 : ∀ x : AV, List.replicate 4 x = [x, x, x, x] := fun _ => rfl
  simp (disch := omega) only [A_power_around, wp, Nat.reduceAdd, Nat.reduceMul, Nat.reduceSub, gl, o_boxI, vBoxI_S, bxiD_ok, frzL_gr, vMapL_some, hfn, hvn, r4, sp_setF S.pp hX (pw_isM S), pw_po S hX, pw_own S hX, pw_setB S hX, pw_then4 S hn]
  rfl
set_option maxRecDepth 100000 in
theorem pw_sync : pureS F 294 [.agg (grC X)] = some (.ptr (relC (nOf X) (psyR X))) := by
  refine pure_of S.pw.power_Sync ?_
  simp (disch := omega) only [A_power_Sync, wp, Nat.reduceAdd, Nat.reduceMul, Nat.reduceSub, gl, pw_arnd S hX]
  rfl
set_option maxRecDepth 100000 in
theorem pw_fences : pureS F 295 [.agg (grC X)] = some (.ptr (relC (nOf X) (pfeR X))) := by
  refine pure_of S.pw.power_Fences ?_
  have hn := nOf_le X
  simp (disch := omega) only [A_power_Fences, wp, Nat.reduceAdd, Nat.reduceMul, Nat.reduceSub, gl, pw_arnd S hX, pw_sync S hX, sp_setF S.pp hX (pw_isW S), sp_setF S.pp hX (pw_isR S), pw_then2 S hn, sp_less S.pp.ls S.pp.pr hn hn, sp_or S.pp.pr hn hn, Nat.max_self]
  rfl
set_option maxRecDepth 100000 in
theorem pw_com : pureS F 313 [.agg (grC X)] = some (.ptr (relC (nOf X) (pcoR X))) := by
  refine pure_of S.pw.power_com ?_
  have hn := nOf_le X
  simp (disch := omega) only [A_power_com, wp, Nat.reduceAdd, Nat.reduceMul, Nat.reduceSub, gl, sp_rfP S.pp hX, sp_Co S.pp.pe S.pp.gof S.pp.pr hX, sp_Fr S.pp.pe S.pp.gof S.pp.pr hX, sp_or S.pp.pr hn hn, Nat.max_self]
  rfl
set_option maxRecDepth 100000 in
theorem pw_any (R : Rw) : pureS F 321 [.agg (grC X), .ptr (relC (nOf X) R)] = some (.ptr (relC (nOf X) (panR X R))) := by
  refine pure_of S.pw.power_any ?_
  have hn := nOf_le X
  have dn : pureS F 11 [.i .i64 X.evs.length, .sl [] 0 .non] = some (.ptr (relC (nOf X) (newR (nOf X) []))) := sp_new S.pp.pr X.evs.length [] .non (by simp)
  simp (disch := omega) only [A_power_any, wp, Nat.reduceAdd, Nat.reduceMul, Nat.reduceSub, gl, dn, sp_plus S.pp.pr hn, sp_maybe S.pp.pr hn, sp_or S.pp.pr hn hn, Nat.max_self]
  rfl
include hL
set_option maxRecDepth 100000 in
theorem pw_hb : pureS F 316 [.agg (grC X)] = some (.ptr (relC (nOf X) (phbR X))) := by
  refine pure_of S.pw.power_Hb ?_
  have hn := nOf_le X
  simp (disch := omega) only [A_power_Hb, wp, Nat.reduceAdd, Nat.reduceMul, Nat.reduceSub, gl, sp_ppo S.pp hX hL.data hL.ctrl hL.ctrli, pw_fences S hX, sp_rfP S.pp hX, sp_Outer S.pp.pe S.pp.gof S.pp.pr hn, sp_or S.pp.pr hn hn, Nat.max_self]
  rfl
set_option maxRecDepth 100000 in
set_option maxHeartbeats 4000000 in
theorem pw_prop : pureS F 320 [.agg (grC X)] = some (.ptr (relC (nOf X) (pprR X))) := by
  refine pure_of S.pw.power_Prop ?_
  have hn := nOf_le X
  simp (disch := omega) only [A_power_Prop, wp, Nat.reduceAdd, Nat.reduceMul, Nat.reduceSub, gl, pw_fences S hX, pw_hb S hX hL, pw_any S hX, pw_com S hX, pw_sync S hX, sp_rfP S.pp hX, sp_setF S.pp hX (pw_isW S), sp_Outer S.pp.pe S.pp.gof S.pp.pr hn, sp_then S.pp.pr hn hn, sp_or S.pp.pr hn hn, pw_then2 S hn, pw_then3 S hn, Nat.max_self]
  rfl
set_option maxRecDepth 100000 in
theorem pw_c1 : pureS F 311 [.agg (grC X)] = some (.b (pc1B X)) := by
  refine pure_of S.pw.power_conditions_1 ?_
  have hn := nOf_le X
  simp (disch := omega) only [A_power_conditions_1, wp, Nat.reduceAdd, Nat.reduceMul, Nat.reduceSub, gl, sp_locP S.pp hX, pw_own S hX, pw_com S hX, sp_or S.pp.pr hn hn, sp_loops S.pp.pr hn, Nat.max_self]
  rfl
set_option maxRecDepth 100000 in
theorem pw_c2 : pureS F 314 [.agg (grC X)] = some (.b (atB X)) := by
  refine pure_of S.pw.power_conditions_2 ?_
  have hn := nOf_le X
  simp (disch := omega) only [A_power_conditions_2, wp, Nat.reduceAdd, Nat.reduceMul, Nat.reduceSub, gl, sp_Fr S.pp.pe S.pp.gof S.pp.pr hX, sp_Co S.pp.pe S.pp.gof S.pp.pr hX, sp_Outer S.pp.pe S.pp.gof S.pp.pr hn, sp_ofP S.pp _ hL.rmw, sp_and S.pp.pr hn hn, sp_then S.pp.pr hn hn, sp_pairs S.pp.pr hn, Nat.max_self]
  rfl
set_option maxRecDepth 100000 in
theorem pw_c3 : pureS F 315 [.agg (grC X)] = some (.b (pc3B X)) := by
  refine pure_of S.pw.power_conditions_3 ?_
  have hn := nOf_le X
  simp (disch := omega) only [A_power_conditions_3, wp, Nat.reduceAdd, Nat.reduceMul, Nat.reduceSub, gl, pw_hb S hX hL, sp_loops S.pp.pr hn]
  rfl
omit hL in
set_option maxRecDepth 100000 in
set_option maxHeartbeats 4000000 in
theorem pw_free (C : Rw) : pureS F 318 [.agg (grC X), .ptr (relC (nOf X) C)] = some (.b (allN X.evs.length fun i => !has (nOf X) C i i)) := by
  refine pure_of S.pw.power_free ?_
  have hn := nOf_le X
  have hev : X.evs.length ≤ 1000 := by have := hX.1; omega
  have finT : (∀ i, i < X.evs.length → (!has (nOf X) C (i : Nat) (i : Nat)) = true) → (allN X.evs.length fun i => !has (nOf X) C i i) = true := allN_t
  have finF : ∀ k, k < X.evs.length → (!has (nOf X) C (k : Nat) (k : Nat)) = false → (allN X.evs.length fun i => !has (nOf X) C i i) = false := fun k hk h => allN_f hk h
  generalize (allN X.evs.length fun i => !has (nOf X) C i i) = R at finT finF
  simp (disch := omega) only [A_power_free, wp, Nat.reduceAdd, Nat.reduceMul, Nat.reduceSub, gl]
  refine W_loop (fun q e g => ∃ k : Nat, q = X.evs.length - k ∧ k ≤ X.evs.length ∧ e 1 = .ptr (relC (nOf X) C) ∧ e 8 = .i .i64 X.evs.length ∧ e 9 = .i .i64 k ∧ ∀ i, i < k → (!has (nOf X) C (i : Nat) (i : Nat)) = true) X.evs.length ?_ ?_
  · refine ⟨0, rfl, Nat.zero_le _, ?_⟩
    simp (disch := omega) only [wp, Nat.reduceAdd, Nat.reduceMul, Nat.reduceSub]
    exact ⟨rfl, fun i hi => by omega⟩
  · rintro q e g ⟨k, rfl, hk, e1, e8, e9, hall⟩
    by_cases hk' : k < X.evs.length
    · have hk1 : (k : Int) < X.evs.length := by omega
      have hwk := succ_wrap (k := k) (by omega)
      have hh := sp_has S.pp.pr hn C k k
      have hf := finF k hk'
      have hall' : (!has (nOf X) C (k : Nat) (k : Nat)) = true → ∀ i, i < k + 1 → (!has (nOf X) C (i : Nat) (i : Nat)) = true := by
        intro h i hi
        by_cases hik : i = k
        · subst hik; exact h
        · exact hall i (by omega)
      cases c : has (nOf X) C (k : Nat) (k : Nat)
      · rw [c] at hh hall'
        simp (disch := omega) only [wp, Nat.reduceAdd, Nat.reduceMul, Nat.reduceSub, gl, e1, e8, e9, hk1, hh, hwk]
        exact ⟨X.evs.length - (k + 1), by omega, k + 1, rfl, by omega, rfl, hall' rfl⟩
      · rw [c] at hh hf
        obtain rfl := hf rfl
        simp (disch := omega) only [wp, Nat.reduceAdd, Nat.reduceMul, Nat.reduceSub, gl, e1, e8, e9, hk1, hh]
    · have hk1 : ¬ ((k : Int) < X.evs.length) := by omega
      obtain rfl : k = X.evs.length := by omega
      obtain rfl := finT hall
      simp (disch := omega) only [wp, Nat.reduceAdd, Nat.reduceMul, Nat.reduceSub, gl, e1, e8, e9, hk1]
set_option maxRecDepth 100000 in
set_option maxHeartbeats 4000000 in
theorem pw_c4 : pureS F 317 [.agg (grC X)] = some (.b (pc4B X)) := by
  refine pure_of S.pw.power_conditions_4 ?_
  have hn := nOf_le X
  simp (disch := omega) only [A_power_conditions_4, wp, Nat.reduceAdd, Nat.reduceMul, Nat.reduceSub, gl, sp_Fr S.pp.pe S.pp.gof S.pp.pr hX, sp_Outer S.pp.pe S.pp.gof S.pp.pr hn, pw_prop S hX hL, pw_hb S hX hL, pw_any S hX, pw_then2 S hn, pw_free S hX]
  rfl
set_option maxRecDepth 100000 in
theorem pw_c5 : pureS F 322 [.agg (grC X)] = some (.b (pc5B X)) := by
  refine pure_of S.pw.power_conditions_5 ?_
  have hn := nOf_le X
  simp (disch := omega) only [A_power_conditions_5, wp, Nat.reduceAdd, Nat.reduceMul, Nat.reduceSub, gl, sp_Co S.pp.pe S.pp.gof S.pp.pr hX, pw_prop S hX hL, sp_or S.pp.pr hn hn, sp_loops S.pp.pr hn, Nat.max_self]
  rfl
omit hX hL in
set_option maxRecDepth 100000 in
theorem pw_conds : pureS F 292 [] = some (.agg [.fn 311 [] [], .fn 314 [] [], .fn 315 [] [], .fn 317 [] [], .fn 322 [] []]) := by
  refine pure_of S.pw.power_conditions ?_
  have r5 : ∀ x : AV, List.replicate 5 x = [x, x, x, x, x] := fun _ => rfl
  have s5 : ∀ a b c d e x1 x2 x3 x4 x5 : AV, splice [a, b, c, d, e] 0 [x1, x2, x3, x4, x5] = [x1, x2, x3, x4, x5] := fun _ _ _ _ _ _ _ _ _ _ => rfl
  have p5 : ∀ a b c d e : AV, part [a, b, c, d, e] 0 (some 5) = some (.agg [a, b, c, d, e]) := fun _ _ _ _ _ => rfl
  simp (disch := omega) only [A_power_conditions, wp, Nat.reduceAdd, Nat.reduceMul, Nat.reduceSub, gl, res_cell, resC, r5, s5, p5, List.length_set]
  refine frz_d_agg ?_
  show frzL _ (7 + 1) _ = _
  simp only [frzL, frz]
set_option maxRecDepth 100000 in
set_option maxHeartbeats 8000000 in
theorem pw_con : pureS F 276 [.agg (grC X)] = some (.b (pcnB X)) := by
  refine pure_of S.pw.power_Consistent ?_
  have hck := sg_check S.gr hL
  have h1 := pw_c1 S hX hL
  have h2 := pw_c2 S hX hL
  have h3 := pw_c3 S hX hL
  have h4 := pw_c4 S hX hL
  have h5 := pw_c5 S hX hL
  have hR : pcnB X = (gCheck X && (pc1B X && (atB X && (pc3B X && (pc4B X && pc5B X))))) := rfl
  cases c0 : gCheck X
  · rw [c0] at hck hR
    rw [hR]
    simp (disch := omega) only [A_power_Consistent, wp, Nat.reduceAdd, Nat.reduceMul, Nat.reduceSub, gl, hck]
  rw [c0] at hck
  rw [c0, Bool.true_and] at hR
  generalize pcnB X = R at hR
  generalize pc1B X = b1 at h1 hR
  generalize atB X = b2 at h2 hR
  generalize pc3B X = b3 at h3 hR
  generalize pc4B X = b4 at h4 hR
  generalize pc5B X = b5 at h5 hR
  have x0 : ∀ (a b c d e : AV) g, vIdx 5 1 (some 1) (.agg [a, b, c, d, e]) (.i .i64 ((0 : Nat) : Int)) g = some (.agg [a], g) := fun _ _ _ _ _ _ => rfl
  have x1 : ∀ (a b c d e : AV) g, vIdx 5 1 (some 1) (.agg [a, b, c, d, e]) (.i .i64 ((1 : Nat) : Int)) g = some (.agg [b], g) := fun _ _ _ _ _ _ => rfl
  have x2 : ∀ (a b c d e : AV) g, vIdx 5 1 (some 1) (.agg [a, b, c, d, e]) (.i .i64 ((2 : Nat) : Int)) g = some (.agg [c], g) := fun _ _ _ _ _ _ => rfl
  have x3 : ∀ (a b c d e : AV) g, vIdx 5 1 (some 1) (.agg [a, b, c, d, e]) (.i .i64 ((3 : Nat) : Int)) g = some (.agg [d], g) := fun _ _ _ _ _ _ => rfl
  have x4 : ∀ (a b c d e : AV) g, vIdx 5 1 (some 1) (.agg [a, b, c, d, e]) (.i .i64 ((4 : Nat) : Int)) g = some (.agg [e], g) := fun _ _ _ _ _ _ => rfl
  simp (disch := omega) only [A_power_Consistent, wp, Nat.reduceAdd, Nat.reduceMul, Nat.reduceSub, gl, hck, pw_conds S]
  refine W_loop (fun q e g => ∃ k : Nat, q = 5 - k ∧ k ≤ 5 ∧ e 1 = .mp 0 0 ∧ g.hp 0 = some (.cells (grC X) false) ∧ 0 < g.nx ∧ e 8 = .agg [.fn 311 [] [], .fn 314 [] [], .fn 315 [] [], .fn 317 [] [], .fn 322 [] []] ∧ e 9 = .i .i64 k ∧ (1 ≤ k → b1 = true) ∧ (2 ≤ k → b2 = true) ∧ (3 ≤ k → b3 = true) ∧ (4 ≤ k → b4 = true) ∧ (5 ≤ k → b5 = true)) 5 ?_ ?_
  · refine ⟨0, rfl, by omega, ?_⟩
    simp (disch := omega) only [wp, Nat.reduceAdd, Nat.reduceMul, Nat.reduceSub]
    exact ⟨by first | omega | (dsimp only; omega), rfl, fun h => by omega, fun h => by omega, fun h => by omega, fun h => by omega, fun h => by omega⟩
  · rintro q e g ⟨k, rfl, hk, e1, hg, hnx, e8, e9, q1, q2, q3, q4, q5⟩
    have lt0 : (((0 : Nat) : Int) < 5) := by omega
    have lt1 : (((1 : Nat) : Int) < 5) := by omega
    have lt2 : (((2 : Nat) : Int) < 5) := by omega
    have lt3 : (((3 : Nat) : Int) < 5) := by omega
    have lt4 : (((4 : Nat) : Int) < 5) := by omega
    have w0 := succ_wrap (k := 0) (by omega)
    have w1 := succ_wrap (k := 1) (by omega)
    have w2 := succ_wrap (k := 2) (by omega)
    have w3 := succ_wrap (k := 3) (by omega)
    have w4 := succ_wrap (k := 4) (by omega)
    have hk' : k = 0 ∨ k = 1 ∨ k = 2 ∨ k = 3 ∨ k = 4 ∨ k = 5 := by omega
    rcases hk' with rfl | rfl | rfl | rfl | rfl | rfl
    · cases b1
      · simp (disch := omega) only [wp, Nat.reduceAdd, Nat.reduceMul, Nat.reduceSub, gl, o_idx, e1, hg, e8, e9, lt0, x0, h1]
        rw [hR]; rfl
      · simp (disch := omega) only [wp, Nat.reduceAdd, Nat.reduceMul, Nat.reduceSub, gl, o_idx, e1, hg, e8, e9, lt0, x0, h1, w0]
        exact ⟨4, by omega, 1, rfl, by omega, by first | omega | (dsimp only; omega), rfl, fun _ => trivial, fun h => by omega, fun h => by omega, fun h => by omega, fun h => by omega⟩
    · obtain rfl := q1 (by omega)
      cases b2
      · simp (disch := omega) only [wp, Nat.reduceAdd, Nat.reduceMul, Nat.reduceSub, gl, o_idx, e1, hg, e8, e9, lt1, x1, h2]
        rw [hR]; rfl
      · simp (disch := omega) only [wp, Nat.reduceAdd, Nat.reduceMul, Nat.reduceSub, gl, o_idx, e1, hg, e8, e9, lt1, x1, h2, w1]
        exact ⟨3, by omega, 2, rfl, by omega, by first | omega | (dsimp only; omega), rfl, fun _ => trivial, fun _ => trivial, fun h => by omega, fun h => by omega, fun h => by omega⟩
    · obtain rfl := q1 (by omega)
      obtain rfl := q2 (by omega)
      cases b3
      · simp (disch := omega) only [wp, Nat.reduceAdd, Nat.reduceMul, Nat.reduceSub, gl, o_idx, e1, hg, e8, e9, lt2, x2, h3]
        rw [hR]; rfl
      · simp (disch := omega) only [wp, Nat.reduceAdd, Nat.reduceMul, Nat.reduceSub, gl, o_idx, e1, hg, e8, e9, lt2, x2, h3, w2]
        exact ⟨2, by omega, 3, rfl, by omega, by first | omega | (dsimp only; omega), rfl, fun _ => trivial, fun _ => trivial, fun _ => trivial, fun h => by omega, fun h => by omega⟩
    · obtain rfl := q1 (by omega)
      obtain rfl := q2 (by omega)
      obtain rfl := q3 (by omega)
      cases b4
      · simp (disch := omega) only [wp, Nat.reduceAdd, Nat.reduceMul, Nat.reduceSub, gl, o_idx, e1, hg, e8, e9, lt3, x3, h4]
        rw [hR]; rfl
      · simp (disch := omega) only [wp, Nat.reduceAdd, Nat.reduceMul, Nat.reduceSub, gl, o_idx, e1, hg, e8, e9, lt3, x3, h4, w3]
        exact ⟨1, by omega, 4, rfl, by omega, by first | omega | (dsimp only; omega), rfl, fun _ => trivial, fun _ => trivial, fun _ => trivial, fun _ => trivial, fun h => by omega⟩
    · obtain rfl := q1 (by omega)
      obtain rfl := q2 (by omega)
      obtain rfl := q3 (by omega)
      obtain rfl := q4 (by omega)
      cases b5
      · simp (disch := omega) only [wp, Nat.reduceAdd, Nat.reduceMul, Nat.reduceSub, gl, o_idx, e1, hg, e8, e9, lt4, x4, h5]
        rw [hR]; rfl
      · simp (disch := omega) only [wp, Nat.reduceAdd, Nat.reduceMul, Nat.reduceSub, gl, o_idx, e1, hg, e8, e9, lt4, x4, h5, w4]
        exact ⟨0, by omega, 5, rfl, by omega, by first | omega | (dsimp only; omega), rfl, fun _ => trivial, fun _ => trivial, fun _ => trivial, fun _ => trivial, fun _ => trivial⟩
    · obtain rfl := q1 (by omega)
      obtain rfl := q2 (by omega)
      obtain rfl := q3 (by omega)
      obtain rfl := q4 (by omega)
      obtain rfl := q5 (by omega)
      have n5 : ¬ (((5 : Nat) : Int) < 5) := by omega
      simp (disch := omega) only [wp, Nat.reduceAdd, Nat.reduceMul, Nat.reduceSub, gl, e1, hg, e8, e9, n5]
      rw [hR]; rfl
end
end Go.Ab
end
section
namespace Go.Ab
def A_xref10_Rs : AFun := { res := [.t 2], body := (.seq (.reg false [{ dst := some 1, op := .box (.t 0) },
  { dst := some 2, op := .mv (.c (.nilp)) }])
 (.seq (.reg true [{ dst := some 6, op := .ld (some 8) (.t 1), pre := [] },
  { dst := some 7, op := .call .pure (.c (.fn 230 [] [])) [.t 6], pre := [] },
  { dst := some 8, op := .ld (some 8) (.t 1), pre := [] },
  { dst := some 9, op := .call .pure (.c (.fn 73 [] [])) [.t 8], pre := [] },
  { dst := some 3, op := .mv (.t 7) },
  { dst := some 4, op := .mv (.t 9) }])
 (.seq (.reg true [{ dst := some 10, op := .mv (.t 4) },
  { dst := some 11, op := .call .pure (.c (.fn 35 [] [])) [.t 10], pre := [] },
  { dst := some 12, op := .ld (some 8) (.t 1), pre := [] },
  { dst := some 13, op := .call .pure (.c (.fn 69 [] [])) [.t 12], pre := [] },
  { dst := some 14, op := .call .pure (.c (.fn 32 [] [])) [.t 11, .t 13], pre := [] },
  { dst := some 15, op := .ld (some 8) (.t 1), pre := [] },
  { dst := some 16, op := .fa 4 (.t 1) },
  { dst := some 17, op := .ld none (.t 16), pre := [] },
  { dst := some 18, op := .call .pure (.c (.fn 223 [] [])) [.t 15, .t 17], pre := [] },
  { dst := some 19, op := .call .pure (.c (.fn 32 [] [])) [.t 14, .t 18], pre := [] },
  { dst := some 5, op := .mv (.t 19) }])
 (.seq (.reg false [{ dst := some 20, op := .mv (.t 3) },
  { dst := some 21, op := .mv (.t 4) },
  { dst := some 22, op := .call .pure (.c (.fn 32 [] [])) [.t 20, .t 21] },
  { dst := some 23, op := .mv (.t 3) },
  { dst := some 24, op := .call .pure (.c (.fn 32 [] [])) [.t 22, .t 23] },
  { dst := some 25, op := .mv (.t 3) },
  { dst := some 26, op := .mv (.t 5) },
  { dst := some 27, op := .call .pure (.c (.fn 231 [] [])) [.t 26] },
  { dst := some 28, op := .call .pure (.c (.fn 32 [] [])) [.t 25, .t 27] },
  { dst := some 29, op := .call .pure (.c (.fn 29 [] [])) [.t 24, .t 28] },
  { dst := some 2, op := .mv (.t 29) }])
 .ret)))) }
def A_xref10_Release : AFun := { res := [.t 2], body := (.seq (.reg false [{ dst := some 1, op := .box (.t 0) },
  { dst := some 2, op := .mv (.c (.nilp)) }])
 (.seq (.reg true [{ dst := some 3, op := .ld (some 8) (.t 1), pre := [] },
  { dst := some 4, op := .call .pure (.c (.fn 232 [] [])) [.t 3], pre := [] },
  { dst := some 5, op := .ld (some 8) (.t 1), pre := [] },
  { dst := some 6, op := .call .pure (.c (.fn 233 [] [])) [.t 5], pre := [] },
  { dst := some 7, op := .ld (some 8) (.t 1), pre := [] },
  { dst := some 8, op := .call .pure (.c (.fn 84 [] [])) [.t 7], pre := [] },
  { dst := some 9, op := .call .pure (.c (.fn 32 [] [])) [.t 6, .t 8], pre := [] },
  { dst := some 10, op := .call .pure (.c (.fn 29 [] [])) [.t 4, .t 9], pre := [] },
  { dst := some 11, op := .ld (some 8) (.t 1), pre := [] },
  { dst := some 12, op := .call .pure (.c (.fn 182 [] [])) [.t 11], pre := [] },
  { dst := some 13, op := .call .pure (.c (.fn 32 [] [])) [.t 10, .t 12], pre := [] },
  { dst := some 2, op := .mv (.t 13) }])
 .ret)) }
def A_xref10_Sw : AFun := { res := [.t 2], body := (.seq (.reg false [{ dst := some 1, op := .box (.t 0) },
  { dst := some 2, op := .mv (.c (.nilp)) }])
 (.seq (.reg false [{ dst := some 5, op := .ld (some 8) (.t 1) },
  { dst := some 6, op := .call .pure (.c (.fn 69 [] [])) [.t 5] },
  { dst := some 3, op := .mv (.t 6) }])
 (.seq (.reg true [{ dst := some 7, op := .ld (some 8) (.t 1), pre := [] },
  { dst := some 8, op := .mv (.t 3) },
  { dst := some 9, op := .call .pure (.c (.fn 74 [] [])) [.t 7, .t 8], pre := [] },
  { dst := some 10, op := .ld (some 8) (.t 1), pre := [] },
  { dst := some 11, op := .call .pure (.c (.fn 73 [] [])) [.t 10], pre := [] },
  { dst := some 12, op := .call .pure (.c (.fn 35 [] [])) [.t 11], pre := [] },
  { dst := some 13, op := .ld (some 8) (.t 1), pre := [] },
  { dst := some 14, op := .mv (.t 3) },
  { dst := some 15, op := .call .pure (.c (.fn 75 [] [])) [.t 13, .t 14], pre := [] },
  { dst := some 16, op := .call .pure (.c (.fn 32 [] [])) [.t 12, .t 15], pre := [] },
  { dst := some 17, op := .call .pure (.c (.fn 29 [] [])) [.t 9, .t 16], pre := [] },
  { dst := some 4, op := .mv (.t 17) }])
 (.seq (.reg true [{ dst := some 18, op := .ld (some 8) (.t 1), pre := [] },
  { dst := some 19, op := .call .pure (.c (.fn 183 [] [])) [.t 18], pre := [] },
  { dst := some 20, op := .mv (.t 4) },
  { dst := some 21, op := .call .pure (.c (.fn 32 [] [])) [.t 19, .t 20], pre := [] },
  { dst := some 22, op := .ld (some 8) (.t 1), pre := [] },
  { dst := some 23, op := .call .pure (.c (.fn 234 [] [])) [.t 22], pre := [] },
  { dst := some 24, op := .ld (some 8) (.t 1), pre := [] },
  { dst := some 25, op := .call .pure (.c (.fn 84 [] [])) [.t 24], pre := [] },
  { dst := some 26, op := .ld (some 8) (.t 1), pre := [] },
  { dst := some 27, op := .call .pure (.c (.fn 235 [] [])) [.t 26], pre := [] },
  { dst := some 28, op := .call .pure (.c (.fn 32 [] [])) [.t 25, .t 27], pre := [] },
  { dst := some 29, op := .call .pure (.c (.fn 29 [] [])) [.t 23, .t 28], pre := [] },
  { dst := some 30, op := .call .pure (.c (.fn 32 [] [])) [.t 21, .t 29], pre := [] },
  { dst := some 2, op := .mv (.t 30) }])
 .ret)))) }
def A_xref10_Hb : AFun := { res := [.t 2], body := (.seq (.reg false [{ dst := some 1, op := .box (.t 0) },
  { dst := some 2, op := .mv (.c (.nilp)) }])
 (.seq (.reg true [{ dst := some 3, op := .ld (some 8) (.t 1), pre := [] },
  { dst := some 4, op := .call .pure (.c (.fn 84 [] [])) [.t 3], pre := [] },
  { dst := some 5, op := .ld (some 8) (.t 1), pre := [] },
  { dst := some 6, op := .call .pure (.c (.fn 184 [] [])) [.t 5], pre := [] },
  { dst := some 7, op := .call .pure (.c (.fn 29 [] [])) [.t 4, .t 6], pre := [] },
  { dst := some 8, op := .call .pure (.c (.fn 34 [] [])) [.t 7], pre := [] },
  { dst := some 2, op := .mv (.t 8) }])
 .ret)) }
def A_xref10_W : AFun := { res := [.t 2], body := (.seq (.reg false [{ dst := some 1, op := .box (.t 0) },
  { dst := some 2, op := .mv (.c (.nilp)) }])
 (.seq (.reg false [{ dst := some 3, op := .ld (some 8) (.t 1) },
  { dst := some 4, op := .call .pure (.c (.fn 225 [] [])) [.t 3, .c (.i .i64 2), .c (.i .i64 0), .c (.i .i64 2)] },
  { dst := some 2, op := .mv (.t 4) }])
 .ret)) }
def A_xref10_Wrel : AFun := { res := [.t 2], body := (.seq (.reg false [{ dst := some 1, op := .box (.t 0) },
  { dst := some 2, op := .mv (.c (.nilp)) }])
 (.seq (.reg false [{ dst := some 3, op := .ld (some 8) (.t 1) },
  { dst := some 4, op := .call .pure (.c (.fn 225 [] [])) [.t 3, .c (.i .i64 2), .c (.i .i64 2), .c (.i .i64 2)] },
  { dst := some 2, op := .mv (.t 4) }])
 .ret)) }
def A_xref10_Frel : AFun := { res := [.t 2], body := (.seq (.reg false [{ dst := some 1, op := .box (.t 0) },
  { dst := some 2, op := .mv (.c (.nilp)) }])
 (.seq (.reg false [{ dst := some 3, op := .ld (some 8) (.t 1) },
  { dst := some 4, op := .call .pure (.c (.fn 225 [] [])) [.t 3, .c (.i .i64 3), .c (.i .i64 2), .c (.i .i64 4)] },
  { dst := some 2, op := .mv (.t 4) }])
 .ret)) }
def A_xref10_Racq : AFun := { res := [.t 2], body := (.seq (.reg false [{ dst := some 1, op := .box (.t 0) },
  { dst := some 2, op := .mv (.c (.nilp)) }])
 (.seq (.reg false [{ dst := some 3, op := .ld (some 8) (.t 1) },
  { dst := some 4, op := .call .pure (.c (.fn 225 [] [])) [.t 3, .c (.i .i64 1), .c (.i .i64 1), .c (.i .i64 1)] },
  { dst := some 2, op := .mv (.t 4) }])
 .ret)) }
def A_xref10_Facq : AFun := { res := [.t 2], body := (.seq (.reg false [{ dst := some 1, op := .box (.t 0) },
  { dst := some 2, op := .mv (.c (.nilp)) }])
 (.seq (.reg true [{ dst := some 3, op := .ld (some 8) (.t 1), pre := [] },
  { dst := some 4, op := .call .pure (.c (.fn 225 [] [])) [.t 3, .c (.i .i64 3), .c (.i .i64 1), .c (.i .i64 1)], pre := [] },
  { dst := some 5, op := .ld (some 8) (.t 1), pre := [] },
  { dst := some 6, op := .call .pure (.c (.fn 225 [] [])) [.t 5, .c (.i .i64 3), .c (.i .i64 3), .c (.i .i64 4)], pre := [] },
  { dst := some 7, op := .call .pure (.c (.fn 29 [] [])) [.t 4, .t 6], pre := [] },
  { dst := some 2, op := .mv (.t 7) }])
 .ret)) }
structure Pk_xref10 (F : Funs) : Prop where
  xref10_Rs : F 182 = some A_xref10_Rs
  xref10_Release : F 183 = some A_xref10_Release
  xref10_Sw : F 184 = some A_xref10_Sw
  xref10_Hb : F 185 = some A_xref10_Hb
  xref10_W : F 230 = some A_xref10_W
  xref10_Wrel : F 232 = some A_xref10_Wrel
  xref10_Frel : F 233 = some A_xref10_Frel
  xref10_Racq : F 234 = some A_xref10_Racq
  xref10_Facq : F 235 = some A_xref10_Facq
end Go.Ab
end
section
set_option linter.unusedVariables false
set_option linter.unusedSimpArgs false
namespace Go.Ab
variable {F : Funs}
def kindQ (k f t : Int) (e : Ev) : Bool := e.kd == k && (decide (f ≤ e.md) && decide (e.md ≤ t))
set_option maxRecDepth 100000 in
set_option maxHeartbeats 4000000 in
theorem sp_kind (h225 : F 225 = some A_xref06_Kind) (h27 : F 27 = some A_xref01_New) {X : Gr} (hn : X.evs.length ≤ 40) (k f t : Int) : pureS F 225 [.agg (grC X), .i .i64 k, .i .i64 f, .i .i64 t] = some (.ptr (matC X.evs.length (kindK X (kindQ k f t) X.evs.length))) := by
  refine pure_of_thaw h225 (matC_flat _ _) ?_
  have s6 : ∀ b1 b2 b3 b4 b5 b6 c1 c2 c3 c4 c5 c6 : AV, splice [b1, b2, b3, b4, b5, b6] 0 [c1, c2, c3, c4, c5, c6] = [c1, c2, c3, c4, c5, c6] := fun _ _ _ _ _ _ _ _ _ _ _ _ => rfl
  simp (disch := omega) only [A_xref06_Kind, wp, Nat.reduceAdd, Nat.reduceMul, Nat.reduceSub, gl, ml, thaw27 h27]
  refine W_loop (fun q e g => ∃ a : Nat, q = X.evs.length - a ∧ a ≤ X.evs.length ∧ e 1 = .i .i64 k ∧ e 2 = .i .i64 f ∧ e 3 = .i .i64 t ∧ e 4 = .mp 0 0 ∧ e 9 = .mp 5 0 ∧ e 10 = .i .i64 a ∧ g.hp 0 = some (.cells (grC X) false) ∧ g.hp 5 = some (.cells (matC X.evs.length (kindK X (kindQ k f t) a)) false) ∧ 5 < g.nx) X.evs.length ?_ ?_
  · refine ⟨0, rfl, Nat.zero_le _, ?_⟩
    simp (disch := omega) only [wp, Nat.reduceAdd, Nat.reduceMul, Nat.reduceSub]
    exact ⟨rfl, by rw [kindK_0], by first | omega | (dsimp only; omega)⟩
  · rintro q e g ⟨a, rfl, ha, e1, e2, e3, e4, e9, e10, hg, hm, hnx⟩
    by_cases ha' : a < X.evs.length
    · have ha1 : (a : Int) < X.evs.length := by omega
      have hwa := succ_wrap (k := a) (by omega)
      have hp := ev_part ha'
      have hs := kindK_succ X (kindQ k f t) a
      have hset := fun x => matC_set (n := X.evs.length) (M := kindK X (kindQ k f t) a) (a := a) (b := a) (x := x) (by omega)
      generalize X.evs.getD a ev0 = ev at hp hs
      obtain ⟨th, kd, md, lc, vl, ex⟩ := ev
      have hq : kindQ k f t ⟨th, kd, md, lc, vl, ex⟩ = (kd == k && (decide (f ≤ md) && decide (md ≤ t))) := rfl
      have fin : ∀ x, x = kindQ k f t ⟨th, kd, md, lc, vl, ex⟩ → X.evs.length - (a + 1) < X.evs.length - a ∧ upd2 (kindK X (kindQ k f t) a) a a x = kindK X (kindQ k f t) (a + 1) := fun x hx => ⟨by omega, by rw [hx, hs]⟩
      cases c1 : (kd == k)
      case false =>
        simp (disch := omega) only [wp, Nat.reduceAdd, Nat.reduceMul, Nat.reduceSub, gl, ml, e1, e2, e3, e4, e9, e10, hg, hm, ha1, hp, s6, c1, hset, hwa]
        obtain ⟨f1, f2⟩ := fin false (by rw [hq, c1]; rfl)
        exact ⟨_, f1, a + 1, rfl, by omega, rfl, by rw [f2], by first | omega | (dsimp only; omega)⟩
      by_cases c2 : f ≤ md
      case neg =>
        simp (disch := omega) only [wp, Nat.reduceAdd, Nat.reduceMul, Nat.reduceSub, gl, ml, e1, e2, e3, e4, e9, e10, hg, hm, ha1, hp, s6, c1, c2, hset, hwa]
        obtain ⟨f1, f2⟩ := fin false (by rw [hq, c1, decide_eq_false c2]; rfl)
        exact ⟨_, f1, a + 1, rfl, by omega, rfl, by rw [f2], by first | omega | (dsimp only; omega)⟩
      simp (disch := omega) only [wp, Nat.reduceAdd, Nat.reduceMul, Nat.reduceSub, gl, ml, e1, e2, e3, e4, e9, e10, hg, hm, ha1, hp, s6, c1, c2, hset, hwa]
      obtain ⟨f1, f2⟩ := fin (decide (md ≤ t)) (by rw [hq, c1, decide_eq_true c2]; simp)
      exact ⟨_, f1, a + 1, rfl, by omega, rfl, by rw [f2], by first | omega | (dsimp only; omega)⟩
    · obtain rfl : a = X.evs.length := by omega
      have ha1 : ¬ ((X.evs.length : Int) < X.evs.length) := by omega
      simp (disch := omega) only [wp, Nat.reduceAdd, Nat.reduceMul, Nat.reduceSub, gl, ml, e1, e2, e3, e4, e9, e10, hg, hm, ha1]
      exact ⟨_, rfl, hm⟩
def MIs (F : Funs) (f : Nat) (X : Gr) (R : Rw) : Prop := ∃ A, pureS F f [.agg (grC X)] = some (.ptr (matC X.evs.length A)) ∧ EqN X.evs.length A R
structure RefF (F : Funs) : Prop where
  px : Pk_xref01 F
  star : F 231 = some A_xref01_R_Star
  p9 : Pk_xref09 F
  p6 : Pk_xref06 F
  kind : F 225 = some A_xref06_Kind
  of : F 223 = some A_xref06_Of
section
variable (S : RefF F) {X : Gr} (h : GraphOk X)
include S h
theorem RefF.k (k f t : Int) : pureS F 225 [.agg (grC X), .i .i64 k, .i .i64 f, .i .i64 t] = some (.ptr (matC X.evs.length (kindK X (kindQ k f t) X.evs.length))) := sp_kind S.kind S.px.xref01_New h.n40 k f t
set_option maxRecDepth 100000 in
theorem RefF.ofL (l : List (Int × Int)) (hl : l.length ≤ 1000) (t : Tok) : pureS F 223 [.agg (grC X), .sl (pairsC l) l.length t] = some (.ptr (matC X.evs.length (newM X.evs.length l))) := by
  refine pure_of S.of ?_
  have n40 := h.n40
  have d2 := sp_newM S.px.xref01_New (X.evs.length : Int) l .non (by omega)
  rw [show clamp (X.evs.length : Int) = X.evs.length by unfold clamp; omega] at d2
  simp (disch := omega) only [A_xref06_Of, wp, Nat.reduceAdd, Nat.reduceMul, Nat.reduceSub, gl, d2]
set_option maxRecDepth 100000 in
theorem RefF.st (A : Mx) : pureS F 231 [.ptr (matC X.evs.length A)] = some (.ptr (matC X.evs.length (mbM (plM X.evs.length A X.evs.length) X.evs.length))) := by
  refine pure_of S.star ?_
  simp (disch := omega) only [A_xref01_R_Star, wp, Nat.reduceAdd, Nat.reduceMul, Nat.reduceSub, gl, sp_mplus S.px.xref01_R_Plus S.px.xref01_New h.n40, sp_mmaybe S.px.xref01_R_Maybe S.px.xref01_New h.n40]
theorem RefF.rf : pureS F 69 [.agg (grC X)] = some (.ptr (matC X.evs.length (anyM (rfL X X.rf.length)))) := by
  have n40 := h.n40
  have hrl := h.rfl
  exact sp_mRf S.p9.xref09_Rf S.px.xref01_New (X := X) n40 (by omega) (fun i hi => by have := (h.rfr i (by omega)).2; omega)
theorem RefF.po : pureS F 84 [.agg (grC X)] = some (.ptr (matC X.evs.length (mpoM X))) := sp_mPo S.p6.xref06_Po S.px.xref01_New h.n40
theorem RefF.loc : pureS F 73 [.agg (grC X)] = some (.ptr (matC X.evs.length (locM X))) := sp_mLoc S.p9.xref09_Loc S.p6.xref06_Po S.px.xref01_New h.n40
theorem RefF.inner (A : Mx) : pureS F 74 [.agg (grC X), .ptr (matC X.evs.length A)] = some (.ptr (matC X.evs.length (prtM X true A))) := sp_mInner S.p9.xref09_Inner S.p9.xref09_part S.px.xref01_New h.n40 A
theorem RefF.outer (A : Mx) : pureS F 75 [.agg (grC X), .ptr (matC X.evs.length A)] = some (.ptr (matC X.evs.length (prtM X false A))) := sp_mOuter S.p9.xref09_Outer S.p9.xref09_part S.px.xref01_New h.n40 A
theorem RefF.then (A B : Mx) : pureS F 32 [.ptr (matC X.evs.length A), .ptr (matC X.evs.length B)] = some (.ptr (matC X.evs.length (thM A B X.evs.length X.evs.length))) := by
  have := sp_mthen S.px.xref01_R_Then S.px.xref01_New h.n40 h.n40 A B
  rwa [Nat.max_self] at this
theorem RefF.or (A B : Mx) : pureS F 29 [.ptr (matC X.evs.length A), .ptr (matC X.evs.length B)] = some (.ptr (matC X.evs.length (opM (fun x y => x || y) A B X.evs.length))) := by
  have := sp_mor S.px.xref01_R_Or S.px.xref01_New h.n40 h.n40 A B
  rwa [Nat.max_self] at this
theorem RefF.and (A B : Mx) : pureS F 30 [.ptr (matC X.evs.length A), .ptr (matC X.evs.length B)] = some (.ptr (matC X.evs.length (opM (fun x y => x && y) A B X.evs.length))) := by
  have := sp_mand S.px.xref01_R_And S.px.xref01_New h.n40 h.n40 A B
  rwa [Nat.max_self] at this
theorem RefF.plus (A : Mx) : pureS F 34 [.ptr (matC X.evs.length A)] = some (.ptr (matC X.evs.length (plM X.evs.length A X.evs.length))) := sp_mplus S.px.xref01_R_Plus S.px.xref01_New h.n40 A
theorem RefF.maybe (A : Mx) : pureS F 35 [.ptr (matC X.evs.length A)] = some (.ptr (matC X.evs.length (mbM A X.evs.length))) := sp_mmaybe S.px.xref01_R_Maybe S.px.xref01_New h.n40 A
end
section
variable {X : Gr} (h : GraphOk X)
include h
theorem kq {k f t : Int} {p : Ev → Bool} (hq : ∀ e : Ev, (e.kd = 1 ∧ (e.md = 0 ∨ e.md = 1)) ∨ (e.kd = 2 ∧ (e.md = 0 ∨ e.md = 2)) ∨ (e.kd = 3 ∧ 1 ≤ e.md ∧ e.md ≤ 4) → p e = kindQ k f t e) : EqN X.evs.length (kindK X (kindQ k f t) X.evs.length) (setR X p) :=
  EqN.set h fun i hi => hq _ (ev_kinds h i hi)
end
set_option maxRecDepth 100000 in
section
variable (S : RefF F) (p10 : Pk_xref10 F) {X : Gr} (h : GraphOk X)
include S p10 h
end
end Go.Ab
end
section
set_option linter.unusedVariables false
set_option linter.unusedSimpArgs false
namespace Go.Ab
variable {F : Funs}
def miV (X : Gr) : Mx := fun i j => decide (0 < thI X i) && thI X i == thI X j
set_option maxRecDepth 100000 in
set_option maxHeartbeats 4000000 in
theorem sp_mine (h247 : F 247 = some A_xref19_Mine) (h27 : F 27 = some A_xref01_New) {X : Gr} (hn : X.evs.length ≤ 40) (A : Mx) : pureS F 247 [.agg (grC X), .ptr (matC X.evs.length A)] = some (.ptr (matC X.evs.length (opM (fun x y => x && y) A (miV X) X.evs.length))) := by
  refine pure_of_thaw h247 (matC_flat _ _) ?_
  have fin0 : opM (fun x y => x && y) A (miV X) X.evs.length = stM (fun x y => x && y) A (miV X) X.evs.length X.evs.length 0 := rfl
  simp (disch := omega) only [A_xref19_Mine, wp, Nat.reduceAdd, Nat.reduceMul, Nat.reduceSub, gl, ml, thaw27 h27]
  generalize hB : miV X = B at fin0
  refine W_loop (fun q e g => ∃ a : Nat, q = X.evs.length - a ∧ a ≤ X.evs.length ∧ e 1 = .ptr (matC X.evs.length A) ∧ e 2 = .mp 0 0 ∧ e 5 = .mp 6 0 ∧ e 6 = .i .i64 a ∧ g.hp 0 = some (.cells (grC X) false) ∧ g.hp 6 = some (.cells (matC X.evs.length (stM (fun x y => x && y) A B X.evs.length a 0)) false) ∧ 6 < g.nx) X.evs.length ?_ ?_
  · refine ⟨0, rfl, Nat.zero_le _, ?_⟩
    simp (disch := omega) only [wp, Nat.reduceAdd, Nat.reduceMul, Nat.reduceSub]
    exact ⟨rfl, by rw [stM_0], by first | omega | (dsimp only; omega)⟩
  · rintro q e g ⟨a, rfl, ha, e1, e2, e5, e6, hg, hm, hnx⟩
    by_cases ha' : a < X.evs.length
    · have ha1 : (a : Int) < X.evs.length := by omega
      have hwa := succ_wrap (k := a) (by omega)
      simp (disch := omega) only [wp, Nat.reduceAdd, Nat.reduceMul, Nat.reduceSub, gl, ml, e1, e2, e5, e6, hg, hm, ha1]
      refine W_loop (fun q e g => ∃ b : Nat, q = X.evs.length - b ∧ b ≤ X.evs.length ∧ e 1 = .ptr (matC X.evs.length A) ∧ e 2 = .mp 0 0 ∧ e 5 = .mp 6 0 ∧ e 6 = .i .i64 a ∧ e 7 = .i .i64 b ∧ g.hp 0 = some (.cells (grC X) false) ∧ g.hp 6 = some (.cells (matC X.evs.length (stM (fun x y => x && y) A B X.evs.length a b)) false) ∧ 6 < g.nx) X.evs.length ?_ ?_
      · refine ⟨0, rfl, Nat.zero_le _, ?_⟩
        simp (disch := omega) only [wp, Nat.reduceAdd, Nat.reduceMul, Nat.reduceSub, e1, e2, e5, e6]
        exact ⟨rfl, hg, hm, by first | omega | (dsimp only; omega)⟩
      · rintro q e g ⟨b, rfl, hb, e1, e2, e5, e6, e7, hg, hm, hnx⟩
        by_cases hb' : b < X.evs.length
        · have hb1 : (b : Int) < X.evs.length := by omega
          have hwb := succ_wrap (k := b) (by omega)
          have tA := ev_th_at ha'
          have tB := ev_th_at hb'
          have dA : (List.drop (a * 6) (evsC X.evs)).length = X.evs.length * 6 - a * 6 := by rw [List.length_drop, evsC_len]
          have dB : (List.drop (b * 6) (evsC X.evs)).length = X.evs.length * 6 - b * 6 := by rw [List.length_drop, evsC_len]
          have hv : B a b = (decide (0 < (X.evs.getD a ev0).th) && (X.evs.getD a ev0).th == (X.evs.getD b ev0).th) := by rw [← hB]; rfl
          have hs := stM_succ (fun x y => x && y) A B X.evs.length a b
          have hset := fun x => matC_set (n := X.evs.length) (M := stM (fun x y => x && y) A B X.evs.length a b) (a := a) (b := b) (x := x) (by omega)
          generalize (X.evs.getD a ev0).th = ta at tA hv
          generalize (X.evs.getD b ev0).th = tb at tB hv
          have fin : ∀ x, x = (A a b && B a b) → X.evs.length - (b + 1) < X.evs.length - b ∧ upd2 (stM (fun x y => x && y) A B X.evs.length a b) a b x = stM (fun x y => x && y) A B X.evs.length a (b + 1) := fun x hx => ⟨by omega, by rw [hx]; exact hs⟩
          cases c0 : A a b
          case false =>
            simp (disch := omega) only [wp, Nat.reduceAdd, Nat.reduceMul, Nat.reduceSub, gl, ml, e1, e2, e5, e6, e7, hg, hm, ha1, hb1, tA, tB, dA, dB, c0, hset, hwb]
            obtain ⟨f1, f2⟩ := fin false (by rw [c0]; rfl)
            exact ⟨_, f1, b + 1, rfl, by omega, rfl, by rw [f2], by first | omega | (dsimp only; omega)⟩
          by_cases c1 : 0 < ta
          case neg =>
            simp (disch := omega) only [wp, Nat.reduceAdd, Nat.reduceMul, Nat.reduceSub, gl, ml, e1, e2, e5, e6, e7, hg, hm, ha1, hb1, tA, tB, dA, dB, c0, c1, hset, hwb]
            obtain ⟨f1, f2⟩ := fin false (by rw [c0, hv, decide_eq_false c1]; rfl)
            exact ⟨_, f1, b + 1, rfl, by omega, rfl, by rw [f2], by first | omega | (dsimp only; omega)⟩
          simp (disch := omega) only [wp, Nat.reduceAdd, Nat.reduceMul, Nat.reduceSub, gl, ml, e1, e2, e5, e6, e7, hg, hm, ha1, hb1, tA, tB, dA, dB, c0, c1, hset, hwb]
          obtain ⟨f1, f2⟩ := fin (ta == tb) (by rw [c0, hv, decide_eq_true c1]; simp)
          exact ⟨_, f1, b + 1, rfl, by omega, rfl, by rw [f2], by first | omega | (dsimp only; omega)⟩
        · obtain rfl : b = X.evs.length := by omega
          have hb1 : ¬ ((X.evs.length : Int) < X.evs.length) := by omega
          simp (disch := omega) only [wp, Nat.reduceAdd, Nat.reduceMul, Nat.reduceSub, gl, ml, e1, e2, e5, e6, e7, hg, hm, hb1, hwa]
          exact ⟨X.evs.length - (a + 1), by omega, a + 1, rfl, by omega, rfl, by rw [stM_row], by first | omega | (dsimp only; omega)⟩
    · obtain rfl : a = X.evs.length := by omega
      have ha1 : ¬ ((X.evs.length : Int) < X.evs.length) := by omega
      simp (disch := omega) only [wp, Nat.reduceAdd, Nat.reduceMul, Nat.reduceSub, gl, ml, e1, e2, e5, e6, hg, hm, ha1, fin0]
      exact ⟨_, rfl, hm⟩
theorem RefF.co (S : RefF F) {X : Gr} (hX : FewG X) (h : GraphOk X) : pureS F 70 [.agg (grC X)] = some (.ptr (matC X.evs.length (anyM (coX X X.co.length)))) :=
  sp_mCo S.p9.xref09_Co S.px.xref01_New (X := X) h.n40 (by have := hX.co; omega) (fun j hj => by
    have hm : X.co.getD j [] ∈ X.co := by
      rw [List.getD_eq_getElem?_getD, List.getElem?_eq_getElem hj]; exact List.getElem_mem hj
    have := hX.cos _ hm
    have n40 := h.n40
    exact ⟨by omega, fun i hi => by have := h.cor j hj i hi; omega⟩)
theorem RefF.fr (S : RefF F) {X : Gr} (hX : FewG X) (h : GraphOk X) : pureS F 71 [.agg (grC X)] = some (.ptr (matC X.evs.length (frM X.evs.length (anyM (rfL X X.rf.length)) (anyM (coX X X.co.length))))) :=
  sp_mFr S.p9.xref09_Fr S.px.xref01_New S.px.xref01_R_Then S.px.xref01_R_Back h.n40 (S.rf h) (S.co hX h)
section
variable {X : Gr} (h : GraphOk X)
include h
omit h in
theorem q_kd (k : Int) (e : Ev) (hk : (e.kd = 1 ∧ (e.md = 0 ∨ e.md = 1)) ∨ (e.kd = 2 ∧ (e.md = 0 ∨ e.md = 2)) ∨ (e.kd = 3 ∧ 1 ≤ e.md ∧ e.md ≤ 4)) : (e.kd == k) = kindQ k 0 4 e := by
  unfold kindQ
  rw [Bool.eq_iff_iff]
  simp
  omega
theorem eq_R : EqN X.evs.length (kindK X (kindQ 1 0 4) X.evs.length) (setR X pR) := kq h fun e hk => q_kd 1 e hk
theorem eq_Wk : EqN X.evs.length (kindK X (kindQ 2 0 4) X.evs.length) (setR X pW) := kq h fun e hk => q_kd 2 e hk
theorem eq_M : EqN X.evs.length (opM (fun x y => x || y) (kindK X (kindQ 1 0 4) X.evs.length) (kindK X (kindQ 2 0 4) X.evs.length) X.evs.length) (setR X pM) := by
  have e : EqN X.evs.length (kindK X pM X.evs.length) (setR X pM) := EqN.set h fun i hi => rfl
  refine ⟨e.1, fun a b ha hb' => ?_⟩
  rw [opM_get _ _ _ _ _ _ ha hb', ← e.2 a b ha hb']
  unfold kindK
  have hk := ev_kinds h a ha
  rw [← q_kd 1 _ hk, ← q_kd 2 _ hk]
  unfold pM
  generalize X.evs.getD a ev0 = ev
  cases decide (a = b) <;> cases decide (a < X.evs.length) <;> simp
theorem eq_ploc : EqN X.evs.length (opM (fun x y => x && y) (locM X) (miV X) X.evs.length) (plocR X) := by
  have hl := eq_loc h
  have hi : Wf X.evs.length (partR inner X X.evs.length (locR X)) := wf_part h _ _ _
  have hs : EqN X.evs.length (kindK X pMi X.evs.length) (setR X pMi) := EqN.set h fun i hi => rfl
  have hlR : locR X = partR locP X X.evs.length (poR X) := by unfold locR; rw [h.nOf]
  unfold plocR
  rw [h.nOf]
  refine ⟨wf_then hs.1 hi, fun a b ha hb' => ?_⟩
  rw [opM_get _ _ _ _ _ _ ha hb', hl.2 a b ha hb', Bool.eq_iff_iff, hb_then hs.1, ← hlR]
  have wl : Wf X.evs.length (locR X) := by rw [hlR]; exact hl.1
  have hp := fun x (hx : x < X.evs.length) => partR_get (so := inner) h.nOf wl rfl (a := x) (b := b) hx hb'
  have ta := th_ge h a ha
  constructor
  · intro hh
    rw [Bool.and_eq_true] at hh
    unfold miV thI at hh
    simp only [Bool.and_eq_true, decide_eq_true_eq, beq_iff_eq] at hh
    refine ⟨a, ?_, ?_⟩
    · rw [← hs.2 a a ha ha]
      unfold kindK pMi
      simp only [decide_true, Bool.true_and, decide_eq_true ha, bne_iff_ne, ne_eq]; omega
    · rw [hp a ha, hh.1, Bool.true_and]
      unfold inner
      simp only [beq_iff_eq]; exact hh.2.2
  · rintro ⟨c, h1, h2⟩
    have hc := (hs.1 a c h1).2
    rw [← hs.2 a c ha hc] at h1
    unfold kindK pMi at h1
    simp only [Bool.and_eq_true, decide_eq_true_eq, bne_iff_ne, ne_eq] at h1
    obtain ⟨rfl, _, h3⟩ := h1
    rw [hp a ha, Bool.and_eq_true] at h2
    unfold inner at h2
    rw [Bool.and_eq_true]
    refine ⟨h2.1, ?_⟩
    unfold miV thI
    unfold thI at ta
    simp only [Bool.and_eq_true, decide_eq_true_eq]
    refine ⟨?_, h2.2⟩
    by_cases hl : (a : Int) < X.locs
    · exact absurd (ta.1 hl) h3
    · have := ta.2 hl; omega
end
def rfeM (X : Gr) : Mx := prtM X false (anyM (rfL X X.rf.length))
def freM (X : Gr) : Mx := prtM X false (frM X.evs.length (anyM (rfL X X.rf.length)) (anyM (coX X X.co.length)))
def coeM (X : Gr) : Mx := prtM X false (anyM (coX X X.co.length))
def plM19 (X : Gr) : Mx := opM (fun x y => x && y) (locM X) (miV X) X.evs.length
def mM19 (X : Gr) : Mx := opM (fun x y => x || y) (kindK X (kindQ 1 0 4) X.evs.length) (kindK X (kindQ 2 0 4) X.evs.length) X.evs.length
def rdwM (X : Gr) : Mx := opM (fun x y => x && y) (plM19 X) (thM (freM X) (rfeM X) X.evs.length X.evs.length) X.evs.length
def detM (X : Gr) : Mx := opM (fun x y => x && y) (plM19 X) (thM (coeM X) (rfeM X) X.evs.length X.evs.length) X.evs.length
section
variable {X : Gr} (h : GraphOk X)
include h
theorem eq_rdw : EqN X.evs.length (rdwM X) (rdwR X) := by
  unfold rdwR byR rfR
  rw [h.nOf]
  exact (eq_ploc h).and ((eq_outer h (eq_fr h)).then (eq_outer h (eq_rf h)))
theorem eq_det : EqN X.evs.length (detM X) (detR X) := by
  unfold detR byR rfR
  rw [h.nOf]
  exact (eq_ploc h).and ((eq_outer h (eq_co h)).then (eq_outer h (eq_rf h)))
end
set_option maxRecDepth 100000 in
section
variable (S : RefF F) (p : Pk_xref19 F) {X : Gr} (hX : FewG X) (h : GraphOk X)
include S p hX h
omit hX in
theorem mM19_sp : pureS F 222 [.agg (grC X)] = some (.ptr (matC X.evs.length (mM19 X))) := by
  refine pure_of p.xref19_M ?_
  simp (disch := omega) only [A_xref19_M, wp, Nat.reduceAdd, Nat.reduceMul, Nat.reduceSub, gl, S.k h, S.or h]
  rfl
omit hX in
theorem mPloc : pureS F 224 [.agg (grC X)] = some (.ptr (matC X.evs.length (plM19 X))) := by
  refine pure_of p.xref19_Ploc ?_
  simp (disch := omega) only [A_xref19_Ploc, wp, Nat.reduceAdd, Nat.reduceMul, Nat.reduceSub, gl, S.loc h, sp_mine p.xref19_Mine S.px.xref01_New h.n40]
  rfl
omit hX in
theorem mrfe : pureS F 227 [.agg (grC X)] = some (.ptr (matC X.evs.length (rfeM X))) := by
  refine pure_of p.xref19_rfe ?_
  simp (disch := omega) only [A_xref19_rfe, wp, Nat.reduceAdd, Nat.reduceMul, Nat.reduceSub, gl, S.rf h, S.outer h]
  rfl
theorem mfre : pureS F 226 [.agg (grC X)] = some (.ptr (matC X.evs.length (freM X))) := by
  refine pure_of p.xref19_fre ?_
  simp (disch := omega) only [A_xref19_fre, wp, Nat.reduceAdd, Nat.reduceMul, Nat.reduceSub, gl, S.fr hX h, S.outer h]
  rfl
theorem mcoe : pureS F 228 [.agg (grC X)] = some (.ptr (matC X.evs.length (coeM X))) := by
  refine pure_of p.xref19_coe ?_
  simp (disch := omega) only [A_xref19_coe, wp, Nat.reduceAdd, Nat.reduceMul, Nat.reduceSub, gl, S.co hX h, S.outer h]
  rfl
theorem mRdw : pureS F 174 [.agg (grC X)] = some (.ptr (matC X.evs.length (rdwM X))) := by
  refine pure_of p.xref19_Rdw ?_
  simp (disch := omega) only [A_xref19_Rdw, wp, Nat.reduceAdd, Nat.reduceMul, Nat.reduceSub, gl, mPloc S p h, mfre S p hX h, mrfe S p h, S.then h, S.and h]
  rfl
theorem mDet : pureS F 175 [.agg (grC X)] = some (.ptr (matC X.evs.length (detM X))) := by
  refine pure_of p.xref19_Detour ?_
  simp (disch := omega) only [A_xref19_Detour, wp, Nat.reduceAdd, Nat.reduceMul, Nat.reduceSub, gl, mPloc S p h, mcoe S p hX h, mrfe S p h, S.then h, S.and h]
  rfl
end
end Go.Ab
end
section
namespace Go.Ab
def A_xref11_Bob : AFun := { res := [.t 2], body := (.seq (.reg false [{ dst := some 1, op := .box (.t 0) },
  { dst := some 2, op := .mv (.c (.nilp)) }])
 (.seq (.reg true [{ dst := some 6, op := .ld (some 8) (.t 1), pre := [] },
  { dst := some 7, op := .call .pure (.c (.fn 84 [] [])) [.t 6], pre := [] },
  { dst := some 8, op := .ld (some 8) (.t 1), pre := [] },
  { dst := some 9, op := .call .pure (.c (.fn 225 [] [])) [.t 8, .c (.i .i64 3), .c (.i .i64 1), .c (.i .i64 4)], pre := [] },
  { dst := some 3, op := .mv (.t 7) },
  { dst := some 4, op := .mv (.t 9) }])
 (.seq (.reg true [{ dst := some 10, op := .mv (.t 3) },
  { dst := some 11, op := .ld (some 8) (.t 1), pre := [] },
  { dst := some 12, op := .call .pure (.c (.fn 232 [] [])) [.t 11], pre := [] },
  { dst := some 13, op := .call .pure (.c (.fn 32 [] [])) [.t 10, .t 12], pre := [] },
  { dst := some 14, op := .ld (some 8) (.t 1), pre := [] },
  { dst := some 15, op := .call .pure (.c (.fn 234 [] [])) [.t 14], pre := [] },
  { dst := some 16, op := .mv (.t 3) },
  { dst := some 17, op := .call .pure (.c (.fn 32 [] [])) [.t 15, .t 16], pre := [] },
  { dst := some 18, op := .call .pure (.c (.fn 29 [] [])) [.t 13, .t 17], pre := [] },
  { dst := some 19, op := .mv (.t 3) },
  { dst := some 20, op := .mv (.t 4) },
  { dst := some 21, op := .call .pure (.c (.fn 32 [] [])) [.t 19, .t 20], pre := [] },
  { dst := some 22, op := .call .pure (.c (.fn 29 [] [])) [.t 18, .t 21], pre := [] },
  { dst := some 23, op := .mv (.t 4) },
  { dst := some 24, op := .mv (.t 3) },
  { dst := some 25, op := .call .pure (.c (.fn 32 [] [])) [.t 23, .t 24], pre := [] },
  { dst := some 26, op := .call .pure (.c (.fn 29 [] [])) [.t 22, .t 25], pre := [] },
  { dst := some 5, op := .mv (.t 26) }])
 (.seq (.reg true [{ dst := some 27, op := .mv (.t 5) },
  { dst := some 28, op := .ld (some 8) (.t 1), pre := [] },
  { dst := some 29, op := .call .pure (.c (.fn 232 [] [])) [.t 28], pre := [] },
  { dst := some 30, op := .ld (some 8) (.t 1), pre := [] },
  { dst := some 31, op := .call .pure (.c (.fn 73 [] [])) [.t 30], pre := [] },
  { dst := some 32, op := .call .pure (.c (.fn 32 [] [])) [.t 29, .t 31], pre := [] },
  { dst := some 33, op := .ld (some 8) (.t 1), pre := [] },
  { dst := some 34, op := .call .pure (.c (.fn 230 [] [])) [.t 33], pre := [] },
  { dst := some 35, op := .call .pure (.c (.fn 32 [] [])) [.t 32, .t 34], pre := [] },
  { dst := some 36, op := .call .pure (.c (.fn 29 [] [])) [.t 27, .t 35], pre := [] },
  { dst := some 2, op := .mv (.t 36) }])
 .ret)))) }
def A_xref11_Deps : AFun := { res := [.t 2], body := (.seq (.reg false [{ dst := some 1, op := .box (.t 0) },
  { dst := some 2, op := .mv (.c (.nilp)) }])
 (.seq (.reg true [{ dst := some 6, op := .ld (some 8) (.t 1), pre := [] },
  { dst := some 7, op := .fa 5 (.t 1) },
  { dst := some 8, op := .ld none (.t 7), pre := [] },
  { dst := some 9, op := .call .pure (.c (.fn 223 [] [])) [.t 6, .t 8], pre := [] },
  { dst := some 10, op := .ld (some 8) (.t 1), pre := [] },
  { dst := some 11, op := .fa 6 (.t 1) },
  { dst := some 12, op := .ld none (.t 11), pre := [] },
  { dst := some 13, op := .call .pure (.c (.fn 223 [] [])) [.t 10, .t 12], pre := [] },
  { dst := some 14, op := .call .pure (.c (.fn 29 [] [])) [.t 9, .t 13], pre := [] },
  { dst := some 3, op := .mv (.t 14) }])
 (.seq (.reg false [{ dst := some 15, op := .fa 1 (.t 1) },
  { dst := some 16, op := .ld none (.t 15) },
  { dst := some 17, op := .len (.t 16) },
  { dst := some 18, op := .call .thaw (.c (.fn 27 [] [])) [.t 17, .c (.sl [] 0 .rig)] },
  { dst := some 4, op := .mv (.t 18) }])
 (.seq (.seq (.reg false [{ dst := some 5, op := .mv (.c (.i .i64 0)) }])
 (.blk 0 (.loop (.seq (.seq (.reg false [{ dst := some 19, op := .mv (.t 5) },
  { dst := some 20, op := .fa 1 (.t 1) },
  { dst := some 21, op := .ld none (.t 20) },
  { dst := some 22, op := .len (.t 21) },
  { dst := some 23, op := .bin .lss (.t 19) (.t 22) }])
 (.cond (.t 23) .skip
 (.ext 0)))
 (.seq (.blk 1 (.reg true [{ dst := some 26, op := .mv (.t 4) },
  { dst := some 27, op := .mv (.t 5) },
  { dst := some 28, op := .mv (.t 5) },
  { dst := some 29, op := .fa 1 (.t 1) },
  { dst := some 30, op := .ld none (.t 29), pre := [] },
  { dst := some 31, op := .mv (.t 5) },
  { dst := some 32, op := .ia 6 (.t 30) (.t 31) },
  { dst := some 33, op := .fa 1 (.t 32) },
  { dst := some 34, op := .ld none (.t 33), pre := [] },
  { dst := some 35, op := .bin .eql (.t 34) (.c (.i .i64 1)) },
  { dst := some 36, op := .mv (.t 35) },
  { dst := some 37, op := .fa 1 (.t 1), grd := some (36, true) },
  { dst := some 38, op := .ld none (.t 37), grd := some (36, true), pre := [] },
  { dst := some 39, op := .mv (.t 5), grd := some (36, true) },
  { dst := some 40, op := .ia 6 (.t 38) (.t 39), grd := some (36, true) },
  { dst := some 41, op := .fa 5 (.t 40), grd := some (36, true) },
  { dst := some 42, op := .ld none (.t 41), grd := some (36, true), pre := [] },
  { dst := some 43, op := .pick (.t 36) (.t 42) (.c (.b false)) },
  { dst := some 44, op := .nilck (.t 26) },
  { dst := some 45, op := .fa 1 (.t 44) },
  { dst := some 46, op := .iaa 40 40 (.t 45) (.t 27) },
  { dst := some 47, op := .iaa 40 1 (.t 46) (.t 28) },
  { dst := none, op := .st 1 (.t 47) (.t 43), pre := [] }]))
 (.reg false [{ dst := some 24, op := .mv (.t 5) },
  { dst := some 25, op := .bin .add (.t 24) (.c (.i .i64 1)) },
  { dst := some 5, op := .mv (.t 25) }]))))))
 (.seq (.imm 4 (.reg false [{ dst := some 48, op := .mv (.t 3) },
  { dst := some 49, op := .mv (.t 4) },
  { dst := some 50, op := .ld (some 8) (.t 1) },
  { dst := some 51, op := .call .pure (.c (.fn 84 [] [])) [.t 50] },
  { dst := some 52, op := .call .pure (.c (.fn 32 [] [])) [.t 49, .t 51] },
  { dst := some 53, op := .call .pure (.c (.fn 29 [] [])) [.t 48, .t 52] },
  { dst := some 2, op := .mv (.t 53) }]))
 .ret))))) }
def A_xref11_Ppo : AFun := { res := [.t 2], body := (.seq (.reg false [{ dst := some 1, op := .box (.t 0) },
  { dst := some 2, op := .mv (.c (.nilp)) }])
 (.seq (.reg false [{ dst := some 5, op := .ld (some 8) (.t 1) },
  { dst := some 6, op := .call .pure (.c (.fn 225 [] [])) [.t 5, .c (.i .i64 1), .c (.i .i64 0), .c (.i .i64 1)] },
  { dst := some 3, op := .mv (.t 6) }])
 (.seq (.reg true [{ dst := some 7, op := .ld (some 8) (.t 1), pre := [] },
  { dst := some 8, op := .ld (some 8) (.t 1), pre := [] },
  { dst := some 9, op := .call .pure (.c (.fn 69 [] [])) [.t 8], pre := [] },
  { dst := some 10, op := .call .pure (.c (.fn 74 [] [])) [.t 7, .t 9], pre := [] },
  { dst := some 4, op := .mv (.t 10) }])
 (.seq (.reg true [{ dst := some 11, op := .mv (.t 3) },
  { dst := some 12, op := .ld (some 8) (.t 1), pre := [] },
  { dst := some 13, op := .call .pure (.c (.fn 256 [] [])) [.t 12], pre := [] },
  { dst := some 14, op := .mv (.t 4) },
  { dst := some 15, op := .call .pure (.c (.fn 29 [] [])) [.t 13, .t 14], pre := [] },
  { dst := some 16, op := .call .pure (.c (.fn 34 [] [])) [.t 15], pre := [] },
  { dst := some 17, op := .call .pure (.c (.fn 32 [] [])) [.t 11, .t 16], pre := [] },
  { dst := some 18, op := .ld (some 8) (.t 1), pre := [] },
  { dst := some 19, op := .call .pure (.c (.fn 230 [] [])) [.t 18], pre := [] },
  { dst := some 20, op := .call .pure (.c (.fn 32 [] [])) [.t 17, .t 19], pre := [] },
  { dst := some 2, op := .mv (.t 20) }])
 .ret)))) }
def A_xref11_Detour : AFun := { res := [.t 2], body := (.seq (.reg false [{ dst := some 1, op := .box (.t 0) },
  { dst := some 2, op := .mv (.c (.nilp)) }])
 (.seq (.reg true [{ dst := some 5, op := .ld (some 8) (.t 1), pre := [] },
  { dst := some 6, op := .ld (some 8) (.t 1), pre := [] },
  { dst := some 7, op := .call .pure (.c (.fn 70 [] [])) [.t 6], pre := [] },
  { dst := some 8, op := .call .pure (.c (.fn 75 [] [])) [.t 5, .t 7], pre := [] },
  { dst := some 9, op := .ld (some 8) (.t 1), pre := [] },
  { dst := some 10, op := .ld (some 8) (.t 1), pre := [] },
  { dst := some 11, op := .call .pure (.c (.fn 69 [] [])) [.t 10], pre := [] },
  { dst := some 12, op := .call .pure (.c (.fn 75 [] [])) [.t 9, .t 11], pre := [] },
  { dst := some 3, op := .mv (.t 8) },
  { dst := some 4, op := .mv (.t 12) }])
 (.seq (.reg true [{ dst := some 13, op := .mv (.t 3) },
  { dst := some 14, op := .mv (.t 4) },
  { dst := some 15, op := .call .pure (.c (.fn 32 [] [])) [.t 13, .t 14], pre := [] },
  { dst := some 16, op := .ld (some 8) (.t 1), pre := [] },
  { dst := some 17, op := .call .pure (.c (.fn 84 [] [])) [.t 16], pre := [] },
  { dst := some 18, op := .call .pure (.c (.fn 30 [] [])) [.t 15, .t 17], pre := [] },
  { dst := some 2, op := .mv (.t 18) }])
 .ret))) }
def A_xref11_Psc : AFun := { res := [.t 2], body := (.seq (.reg false [{ dst := some 1, op := .box (.t 0) },
  { dst := some 2, op := .mv (.c (.nilp)) }])
 (.seq (.reg true [{ dst := some 5, op := .ld (some 8) (.t 1), pre := [] },
  { dst := some 6, op := .call .pure (.c (.fn 225 [] [])) [.t 5, .c (.i .i64 3), .c (.i .i64 4), .c (.i .i64 4)], pre := [] },
  { dst := some 7, op := .ld (some 8) (.t 1), pre := [] },
  { dst := some 8, op := .call .pure (.c (.fn 185 [] [])) [.t 7], pre := [] },
  { dst := some 3, op := .mv (.t 6) },
  { dst := some 4, op := .mv (.t 8) }])
 (.seq (.reg true [{ dst := some 9, op := .mv (.t 3) },
  { dst := some 10, op := .mv (.t 4) },
  { dst := some 11, op := .call .pure (.c (.fn 32 [] [])) [.t 9, .t 10], pre := [] },
  { dst := some 12, op := .ld (some 8) (.t 1), pre := [] },
  { dst := some 13, op := .call .pure (.c (.fn 72 [] [])) [.t 12], pre := [] },
  { dst := some 14, op := .call .pure (.c (.fn 32 [] [])) [.t 11, .t 13], pre := [] },
  { dst := some 15, op := .mv (.t 4) },
  { dst := some 16, op := .call .pure (.c (.fn 32 [] [])) [.t 14, .t 15], pre := [] },
  { dst := some 17, op := .mv (.t 3) },
  { dst := some 18, op := .call .pure (.c (.fn 32 [] [])) [.t 16, .t 17], pre := [] },
  { dst := some 2, op := .mv (.t 18) }])
 .ret))) }
def A_xref11_Ar : AFun := { res := [.t 2], body := (.seq (.reg false [{ dst := some 1, op := .box (.t 0) },
  { dst := some 2, op := .mv (.c (.nilp)) }])
 (.seq (.reg true [{ dst := some 4, op := .ld (some 8) (.t 1), pre := [] },
  { dst := some 5, op := .ld (some 8) (.t 1), pre := [] },
  { dst := some 6, op := .call .pure (.c (.fn 69 [] [])) [.t 5], pre := [] },
  { dst := some 7, op := .call .pure (.c (.fn 75 [] [])) [.t 4, .t 6], pre := [] },
  { dst := some 3, op := .mv (.t 7) }])
 (.seq (.reg true [{ dst := some 8, op := .mv (.t 3) },
  { dst := some 9, op := .ld (some 8) (.t 1), pre := [] },
  { dst := some 10, op := .call .pure (.c (.fn 255 [] [])) [.t 9], pre := [] },
  { dst := some 11, op := .call .pure (.c (.fn 29 [] [])) [.t 8, .t 10], pre := [] },
  { dst := some 12, op := .ld (some 8) (.t 1), pre := [] },
  { dst := some 13, op := .call .pure (.c (.fn 257 [] [])) [.t 12], pre := [] },
  { dst := some 14, op := .call .pure (.c (.fn 29 [] [])) [.t 11, .t 13], pre := [] },
  { dst := some 15, op := .ld (some 8) (.t 1), pre := [] },
  { dst := some 16, op := .call .pure (.c (.fn 258 [] [])) [.t 15], pre := [] },
  { dst := some 17, op := .call .pure (.c (.fn 29 [] [])) [.t 14, .t 16], pre := [] },
  { dst := some 18, op := .ld (some 8) (.t 1), pre := [] },
  { dst := some 19, op := .call .pure (.c (.fn 259 [] [])) [.t 18], pre := [] },
  { dst := some 20, op := .call .pure (.c (.fn 29 [] [])) [.t 17, .t 19], pre := [] },
  { dst := some 2, op := .mv (.t 20) }])
 .ret))) }
structure Pk_xref11 (F : Funs) : Prop where
  xref11_Bob : F 255 = some A_xref11_Bob
  xref11_Deps : F 256 = some A_xref11_Deps
  xref11_Ppo : F 257 = some A_xref11_Ppo
  xref11_Detour : F 258 = some A_xref11_Detour
  xref11_Psc : F 259 = some A_xref11_Psc
  xref11_Ar : F 260 = some A_xref11_Ar
end Go.Ab
end
section
set_option linter.unusedVariables false
set_option linter.unusedSimpArgs false
namespace Go.Ab
variable {F : Funs}
def r11 (X : Gr) : Mx := opM (fun x y => x || y) (newM X.evs.length X.data) (newM X.evs.length X.ctrl) X.evs.length
theorem EqN.z {n : Nat} (hn : n ≤ 40) {A : Mx} {R : Rw} (h : EqN n A R) : EqN n A (orR (newR n []) R) :=
  ⟨wf_or (wf_new hn _) h.1, fun a b ha hb' => by
    have hz := (EqN.new hn []).2 a b ha hb'
    rw [h.2 a b ha hb', hb_or, ← hz]
    simp [newM]⟩
theorem q_m1 (k f : Int) (e : Ev) : (e.kd == k && e.md == f) = kindQ k f f e := by
  unfold kindQ
  congr 1
  rw [Bool.eq_iff_iff]
  simp
  omega
section
variable {X : Gr} (h : GraphOk X)
include h
end
set_option maxRecDepth 100000 in
section
variable (S : RefF F) (p : Pk_xref11 F) (p10 : Pk_xref10 F) {X : Gr} (hX : FewG X) (h : GraphOk X)
include S p p10 hX h
omit S p p10 h in
theorem FewG.l1 : X.data.length ≤ 1000 ∧ X.ctrl.length ≤ 1000 ∧ X.rmw.length ≤ 1000 := by
  have h1 := hX.data
  have h2 := hX.ctrl
  have h3 := hX.rmw
  omega
end
end Go.Ab
end
section
set_option linter.unusedVariables false
set_option linter.unusedSimpArgs false
namespace Go.Ab
variable {F : Funs}
theorem z10 : ((1 : Int) == 0) = false := rfl
theorem z12 : ((1 : Int) == 2) = false := rfl
theorem z20 : ((2 : Int) == 0) = false := rfl
theorem z21 : ((2 : Int) == 1) = false := rfl
theorem z31 : ((3 : Int) == 1) = false := rfl
theorem z32 : ((3 : Int) == 2) = false := rfl
set_option maxRecDepth 100000 in
set_option maxHeartbeats 4000000 in
theorem st_event (h63 : F 63 = some A_xref06_event) {X : Gr} {i : Nat} (hi : i < X.evs.length) (hl : 1 ≤ X.locs) (hn : X.evs.length ≤ 100) (ok : EvOk X.locs i (X.evs.getD (i - 1) ev0) (X.evs.getD i ev0)) : pureS F 63 [.agg (grC X), .i .i64 i] = some (.b true) := by
  refine pure_of h63 ?_
  have hp := ev_part hi
  have hq := ev_th_at (l := X.evs) (k := i - 1) (by omega)
  have hdl : (List.drop ((i - 1) * 6) (evsC X.evs)).length = X.evs.length * 6 - (i - 1) * 6 := by rw [List.length_drop, evsC_len]
  generalize X.evs.getD i ev0 = ev at hp ok
  generalize X.evs.getD (i - 1) ev0 = pv at hq ok
  obtain ⟨th, kd, md, lc, vl, ex⟩ := ev
  obtain ⟨k1, k2⟩ := ok
  dsimp only at k1 k2
  have s6 : ∀ b1 b2 b3 b4 b5 b6 c1 c2 c3 c4 c5 c6 : AV, splice [b1, b2, b3, b4, b5, b6] 0 [c1, c2, c3, c4, c5, c6] = [c1, c2, c3, c4, c5, c6] := fun _ _ _ _ _ _ _ _ _ _ _ _ => rfl
  by_cases hlt : (i : Int) < X.locs
  · obtain ⟨rfl, rfl, rfl, rfl, rfl, rfl⟩ := k1 hlt
    simp (disch := omega) only [A_xref06_event, wp, Nat.reduceAdd, Nat.reduceMul, Nat.reduceSub, gl, hp, hlt]
  · obtain ⟨t1, t2, t3, k3⟩ := k2 hlt
    have hi0 : 0 < i := by omega
    have hw1 : IntKind.i64.wrap ((i : Int) - 1) = ((i - 1 : Nat) : Int) := by rw [i64_wrap (by omega) (by omega)]; omega
    have hi0' : (0 : Int) < i := by omega
    rcases k3 with ⟨rfl, l1, l2, rfl | rfl⟩ | ⟨rfl, l1, l2, rfl | rfl⟩ | ⟨rfl, m1, m2, rfl, rfl, rfl⟩
    all_goals
      have n1 : ¬ th < 1 := by omega
      have n2 : ¬ 4 < th := by omega
      have n3 : ¬ th < pv.th := by omega
      have n4 : (0 : Int) ≤ 0 := by omega
      have n5 : (0 : Int) < X.locs := by omega
      simp (disch := omega) only [A_xref06_event, wp, Nat.reduceAdd, Nat.reduceMul, Nat.reduceSub, gl, hp, hlt, hi0', hw1, hq, hdl, n1, n2, n3, n4, n5, z10, z12, z20, z21, z31, z32, *]
set_option maxRecDepth 100000 in
set_option maxHeartbeats 4000000 in
theorem st_rf (h64 : F 64 = some A_xref06_rf) {X : Gr} {i : Nat} (hi : i < X.evs.length) (hr : i < X.rf.length) (ok : RfOk X i) : pureS F 64 [.agg (grC X), .i .i64 i] = some (.b true) := by
  refine pure_of h64 ?_
  have hp := ev_part hi
  have hq := ints_part hr
  have hx := fun h => ev_part (l := X.evs) (k := (X.rf.getD i 0).toNat) h
  obtain ⟨ok1, ok2⟩ := ok
  generalize X.evs.getD i ev0 = ev at hp ok1 ok2
  generalize X.rf.getD i 0 = w at hq hx ok1 ok2
  generalize X.evs.getD w.toNat ev0 = xv at hx ok2
  obtain ⟨th, kd, md, lc, vl, ex⟩ := ev
  obtain ⟨th', kd', md', lc', vl', ex'⟩ := xv
  dsimp only at ok1 ok2
  have s6 : ∀ b1 b2 b3 b4 b5 b6 c1 c2 c3 c4 c5 c6 : AV, splice [b1, b2, b3, b4, b5, b6] 0 [c1, c2, c3, c4, c5, c6] = [c1, c2, c3, c4, c5, c6] := fun _ _ _ _ _ _ _ _ _ _ _ _ => rfl
  cases c1 : (kd != 1)
  case true =>
    obtain rfl := ok1 (by simpa using c1)
    simp (disch := omega) only [A_xref06_rf, wp, Nat.reduceAdd, Nat.reduceMul, Nat.reduceSub, gl, hp, hq, c1]
  have hk : kd = 1 := by simpa using c1
  obtain ⟨w0, w1, rfl, rfl, rfl⟩ := ok2 hk
  have hx := hx (by omega)
  have n0 : ¬ w < 0 := by omega
  have n1 : ¬ (X.evs.length : Int) ≤ w := by omega
  simp (disch := omega) only [A_xref06_rf, wp, Nat.reduceAdd, Nat.reduceMul, Nat.reduceSub, gl, hp, hq, c1, hx, n0, n1]
set_option maxRecDepth 100000 in
set_option maxHeartbeats 4000000 in
theorem st_rising (h82 : F 82 = some A_xref06_rising) (l : List (Int × Int)) (t : Tok) (hl : l.length ≤ 1000) (ok : Rising l) : pureS F 82 [.sl (pairsC l) l.length t] = some (.b true) := by
  refine pure_of h82 ?_
  simp (disch := omega) only [A_xref06_rising, wp, Nat.reduceAdd, Nat.reduceMul, Nat.reduceSub, gl]
  refine W_loop (fun q e g => ∃ k : Nat, q = l.length - k ∧ k ≤ l.length ∧ e 0 = .sl (pairsC l) l.length t ∧ e 3 = .i .i64 ((k + 1 : Nat) : Int)) l.length ?_ ?_
  · refine ⟨0, rfl, Nat.zero_le _, ?_⟩
    simp (disch := omega) only [wp, Nat.reduceAdd, Nat.reduceMul, Nat.reduceSub]
    exact rfl
  · rintro q e g ⟨k, rfl, hk, e0, e3⟩
    by_cases hk' : k + 1 < l.length
    · have hk1 : ((k + 1 : Nat) : Int) < l.length := by omega
      have hk0 : (k : Int) < l.length := by omega
      have hwk := succ_wrap (k := k + 1) (by omega)
      have hw1 : IntKind.i64.wrap (((k + 1 : Nat) : Int) - 1) = (k : Int) := by rw [i64_wrap (by omega) (by omega)]; omega
      have a0 := pairs_a (l := l) (k := k) (by omega)
      have b0 := pairs_b (l := l) (k := k) (by omega)
      have a1 := pairs_a hk'
      have b1 := pairs_b hk'
      have d0 : (List.drop (k * 2) (pairsC l)).length = l.length * 2 - k * 2 := by rw [List.length_drop, pairsC_len]
      have d1 : (List.drop ((k + 1) * 2) (pairsC l)).length = l.length * 2 - (k + 1) * 2 := by rw [List.length_drop, pairsC_len]
      have st := ok k hk'
      generalize l.getD k (0, 0) = p at a0 b0 st
      generalize l.getD (k + 1) (0, 0) = q at a1 b1 st
      rcases st with st | ⟨st, st2⟩
      · have c2 : (q.1 == p.1) = false := by simp; omega
        have n1 : ¬ q.1 < p.1 := by omega
        simp (disch := omega) only [wp, Nat.reduceAdd, Nat.reduceMul, Nat.reduceSub, gl, e0, e3, hk1, hk0, hw1, a0, a1, b0, b1, d0, d1, n1, c2, hwk]
        exact ⟨l.length - (k + 1), by omega, k + 1, rfl, by omega, rfl⟩
      · have c2 : (q.1 == p.1) = true := by simp; omega
        have n1 : ¬ q.1 < p.1 := by omega
        have n2 : ¬ q.2 ≤ p.2 := by omega
        simp (disch := omega) only [wp, Nat.reduceAdd, Nat.reduceMul, Nat.reduceSub, gl, e0, e3, hk1, hk0, hw1, a0, a1, b0, b1, d0, d1, n1, n2, c2, hwk]
        exact ⟨l.length - (k + 1), by omega, k + 1, rfl, by omega, rfl⟩
    · have hk1 : ¬ (((k + 1 : Nat) : Int) < l.length) := by omega
      simp (disch := omega) only [wp, Nat.reduceAdd, Nat.reduceMul, Nat.reduceSub, gl, e0, e3, hk1]
set_option maxRecDepth 100000 in
set_option maxHeartbeats 4000000 in
theorem st_deps (h67 : F 67 = some A_xref06_deps) (h82 : F 82 = some A_xref06_rising) (X : Gr) (l : List (Int × Int)) (t : Tok) (hl : l.length ≤ 1000) (ok : DepsOk X l) : pureS F 67 [.agg (grC X), .sl (pairsC l) l.length t] = some (.b true) := by
  refine pure_of h67 ?_
  obtain ⟨ok1, ok2⟩ := ok
  have hr := st_rising h82 l .non hl ok2
  simp (disch := omega) only [A_xref06_deps, wp, Nat.reduceAdd, Nat.reduceMul, Nat.reduceSub, gl]
  refine W_loop (fun q e g => ∃ k : Nat, q = l.length - k ∧ k ≤ l.length ∧ e 1 = .sl (pairsC l) l.length t ∧ e 2 = .mp 0 0 ∧ e 5 = .i .i64 k ∧ g.hp 0 = some (.cells (grC X) false) ∧ 0 < g.nx) l.length ?_ ?_
  · refine ⟨0, rfl, Nat.zero_le _, ?_⟩
    simp (disch := omega) only [wp, Nat.reduceAdd, Nat.reduceMul, Nat.reduceSub]
    exact ⟨rfl, by first | omega | (dsimp only; omega)⟩
  · rintro q e g ⟨k, rfl, hk, e1, e2, e5, hg, hnx⟩
    by_cases hk' : k < l.length
    · have hk1 : (k : Int) < l.length := by omega
      have hwk := succ_wrap (k := k) (by omega)
      have a0 := pairs_a hk'
      have b0 := pairs_b hk'
      have d0 : (List.drop (k * 2) (pairsC l)).length = l.length * 2 - k * 2 := by rw [List.length_drop, pairsC_len]
      obtain ⟨c1, c2, c3, c4, c5⟩ := ok1 k hk'
      generalize l.getD k (0, 0) = p at a0 b0 c1 c2 c3 c4 c5
      obtain ⟨a, b⟩ := p
      simp only at a0 b0 c1 c2 c3 c4 c5
      have ka := ev_kd_at (l := X.evs) (k := a.toNat) (by omega)
      have ta := ev_th_at (l := X.evs) (k := a.toNat) (by omega)
      have tb := ev_th_at (l := X.evs) (k := b.toNat) (by omega)
      have da : (List.drop (a.toNat * 6) (evsC X.evs)).length = X.evs.length * 6 - a.toNat * 6 := by rw [List.length_drop, evsC_len]
      have db : (List.drop (b.toNat * 6) (evsC X.evs)).length = X.evs.length * 6 - b.toNat * 6 := by rw [List.length_drop, evsC_len]
      have c4 : ((X.evs.getD a.toNat ev0).kd != 1) = false := by rw [c4]; rfl
      have c5 : ((X.evs.getD a.toNat ev0).th != (X.evs.getD b.toNat ev0).th) = false := by rw [c5, bne_self_eq_false]
      have n1 : ¬ a < 0 := by omega
      have n2 : ¬ b ≤ a := by omega
      have n3 : ¬ (X.evs.length : Int) ≤ b := by omega
      simp (disch := omega) only [wp, Nat.reduceAdd, Nat.reduceMul, Nat.reduceSub, gl, e1, e2, e5, hg, hk1, a0, b0, d0, n1, n2, n3, ka, ta, tb, da, db, c4, c5, hwk]
      exact ⟨l.length - (k + 1), by omega, k + 1, rfl, by omega, rfl, by first | omega | (dsimp only; omega)⟩
    · obtain rfl : k = l.length := by omega
      have hk1 : ¬ ((l.length : Int) < l.length) := by omega
      simp (disch := omega) only [wp, Nat.reduceAdd, Nat.reduceMul, Nat.reduceSub, gl, e1, e2, e5, hg, hk1, hr]
set_option maxRecDepth 100000 in
set_option maxHeartbeats 4000000 in
theorem st_rmw (h66 : F 66 = some A_xref06_rmw) (h82 : F 82 = some A_xref06_rising) {X : Gr} (hn : X.evs.length ≤ 40) (hl : X.rmw.length ≤ 1000) (ok : RmwOk X) : pureS F 66 [.agg (grC X)] = some (.b true) := by
  refine pure_of h66 ?_
  have hr := st_rising h82 X.rmw .non hl ok.rise
  have s6 : ∀ b1 b2 b3 b4 b5 b6 c1 c2 c3 c4 c5 c6 : AV, splice [b1, b2, b3, b4, b5, b6] 0 [c1, c2, c3, c4, c5, c6] = [c1, c2, c3, c4, c5, c6] := fun _ _ _ _ _ _ _ _ _ _ _ _ => rfl
  simp (disch := omega) only [A_xref06_rmw, wp, Nat.reduceAdd, Nat.reduceMul, Nat.reduceSub, gl, cnt_zero]
  refine blk_cut (fun e g => e 1 = .mp 0 0 ∧ e 3 = .mp 2 0 ∧ g.hp 0 = some (.cells (grC X) false) ∧ g.hp 2 = some (.cells (cntC (inC X.rmw)) false) ∧ 2 < g.nx) ?_ ?_
  · refine W_loop (fun q e g => ∃ k : Nat, q = X.rmw.length - k ∧ k ≤ X.rmw.length ∧ e 1 = .mp 0 0 ∧ e 3 = .mp 2 0 ∧ e 4 = .i .i64 k ∧ g.hp 0 = some (.cells (grC X) false) ∧ g.hp 2 = some (.cells (cntC (inC (X.rmw.take k))) false) ∧ 2 < g.nx) X.rmw.length ?_ ?_
    · refine ⟨0, rfl, Nat.zero_le _, ?_⟩
      simp (disch := omega) only [wp, Nat.reduceAdd, Nat.reduceMul, Nat.reduceSub]
      exact ⟨rfl, by rfl, by first | omega | (dsimp only; omega)⟩
    · rintro q e g ⟨k, rfl, hk, e1, e3, e4, hg, hc, hnx⟩
      by_cases hk' : k < X.rmw.length
      · have hk1 : (k : Int) < X.rmw.length := by omega
        have hwk := succ_wrap (k := k) (by omega)
        have a0 := pairs_a hk'
        have b0 := pairs_b hk'
        have d0 : (List.drop (k * 2) (pairsC X.rmw)).length = X.rmw.length * 2 - k * 2 := by rw [List.length_drop, pairsC_len]
        have hin := inC_take hk'
        have hinl : ∀ i, inC (X.rmw.take k) i ≤ 1000 := fun i => by
          have := inC_le (X.rmw.take k) i
          rw [List.length_take] at this; omega
        obtain ⟨c1, c2, hba, c4, c5, c6, c7, c8, c9⟩ := ok.pairs k hk'
        generalize X.rmw.getD k (0, 0) = p at a0 b0 hin c1 c2 hba c4 c5 c6 c7 c8 c9
        generalize inC (X.rmw.take k) = f at hc hin hinl
        obtain ⟨a, b⟩ := p
        simp only at a0 b0 c1 c2 hba c4 c5 c6 c7 c8 c9
        have hws : IntKind.i64.wrap ((X.evs.length : Int) - 1) = (X.evs.length : Int) - 1 := by rw [i64_wrap (by omega) (by omega)]
        have hwa : IntKind.i64.wrap (a + 1) = a + 1 := by rw [i64_wrap (by omega) (by omega)]
        have c3 : (b != a + 1) = false := by simp [hba]
        have pa := ev_part (l := X.evs) (k := a.toNat) (by omega)
        have pb := ev_part (l := X.evs) (k := b.toNat) (by omega)
        have hal : a < X.evs.length := by omega
        have hbl : b < X.evs.length := by omega
        generalize X.evs.getD a.toNat ev0 = u at pa c4 c5 c6 c7 c8 c9
        generalize X.evs.getD b.toNat ev0 = v at pb c4 c5 c6 c7 c8 c9
        obtain ⟨th, kd, md, lc, vl, ex⟩ := u
        obtain ⟨th', kd', md', lc', vl', ex'⟩ := v
        simp only at c4 c5 c6 c7 c8 c9
        subst c4 c5 c6 c7 c8 c9
        have p1 : ¬ a < 0 := by omega
        have p2 : ¬ (X.evs.length : Int) - 1 ≤ a := by omega
        have n1 : (th != th) = false := by simp
        have n2 : (lc != lc) = false := by simp
        have n3 : ((1 : Int) != 1) = false := rfl
        have n4 : ((2 : Int) != 2) = false := rfl
        have ra := cnt_at (f := f) (a := a.toNat) (by omega)
        have hf1 := succ_wrap (k := f a.toNat) (by have := hinl a.toNat; omega)
        have sa := cnt_set (f := f) (a := a.toNat) (n := f a.toNat + 1) (by omega)
        have rb := cnt_at (f := upd f a.toNat (f a.toNat + 1)) (a := b.toNat) (by omega)
        rw [upd_ne _ _ (by omega)] at rb
        have hf2 := succ_wrap (k := f b.toNat) (by have := hinl b.toNat; omega)
        have sb := cnt_set (f := upd f a.toNat (f a.toNat + 1)) (a := b.toNat) (n := f b.toNat + 1) (by omega)
        have hfin : upd (upd f a.toNat (f a.toNat + 1)) b.toNat (f b.toNat + 1) = inC (X.rmw.take (k + 1)) := by
          funext i
          rw [hin i]
          unfold upd inB
          by_cases i1 : i = b.toNat
          · have : (b == (i : Int)) = true := by simp; omega
            rw [if_pos i1, this, Bool.or_true, if_pos rfl, i1]
          · rw [if_neg i1]
            have n1 : (b == (i : Int)) = false := by simp; omega
            by_cases i2 : i = a.toNat
            · have : (a == (i : Int)) = true := by simp; omega
              rw [if_pos i2, this, Bool.true_or, if_pos rfl, i2]
            · have n2 : (a == (i : Int)) = false := by simp; omega
              rw [if_neg i2, n1, n2]; rfl
        simp (disch := omega) only [wp, Nat.reduceAdd, Nat.reduceMul, Nat.reduceSub, gl, e1, e3, e4, hg, hc, hk1, a0, b0, d0, p1, p2, hws, hwa, c3, pa, pb, s6, n1, n2, n3, n4, cntC_len, ra, hf1, sa, rb, hf2, sb, hfin, hwk]
        exact ⟨X.rmw.length - (k + 1), by omega, k + 1, rfl, by omega, rfl, rfl, by first | omega | (dsimp only; omega)⟩
      · obtain rfl : k = X.rmw.length := by omega
        have hk1 : ¬ ((X.rmw.length : Int) < X.rmw.length) := by omega
        rw [List.take_length] at hc
        simp (disch := omega) only [wp, Nat.reduceAdd, Nat.reduceMul, Nat.reduceSub, gl, e1, e3, e4, hg, hc, hk1]
        exact (by first | omega | (dsimp only; omega))
  · rintro e g ⟨e1, e3, hg, hc, hnx⟩
    have hev := ok.once
    generalize inC X.rmw = f at hc hev
    simp (disch := omega) only [wp, Nat.reduceAdd, Nat.reduceMul, Nat.reduceSub, e1, e3]
    refine W_loop (fun q e g => ∃ k : Nat, q = X.evs.length - k ∧ k ≤ X.evs.length ∧ e 1 = .mp 0 0 ∧ e 3 = .mp 2 0 ∧ e 9 = .i .i64 k ∧ g.hp 0 = some (.cells (grC X) false) ∧ g.hp 2 = some (.cells (cntC f) false) ∧ 2 < g.nx) X.evs.length ?_ ?_
    · refine ⟨0, rfl, Nat.zero_le _, ?_⟩
      simp (disch := omega) only [wp, Nat.reduceAdd, Nat.reduceMul, Nat.reduceSub, e1, e3]
      exact ⟨rfl, hg, hc, by first | omega | (dsimp only; omega)⟩
    · rintro q e g ⟨k, rfl, hk, e1, e3, e9, hg, hc, hnx⟩
      by_cases hk' : k < X.evs.length
      · have hk1 : (k : Int) < X.evs.length := by omega
        have hk40 : (k : Int) < 40 := by omega
        have hwk := succ_wrap (k := k) (by omega)
        have rk := cnt_at (f := f) (a := k) (by omega)
        have hex := ev_ex_at hk'
        have hdl : (List.drop (k * 6) (evsC X.evs)).length = X.evs.length * 6 - k * 6 := by rw [List.length_drop, evsC_len]
        obtain ⟨c1, c2⟩ := hev k hk'
        generalize (X.evs.getD k ev0).ex = ex at hex c2
        have c2 : (ex == ((f k : Int) == 1)) = true := by rw [c2]; simp
        have p1 : ¬ 1 < (f k : Int) := by omega
        simp (disch := omega) only [wp, Nat.reduceAdd, Nat.reduceMul, Nat.reduceSub, gl, e1, e3, e9, hg, hc, hk1, rk, p1, hex, hdl, c2, hwk]
        exact ⟨X.evs.length - (k + 1), by omega, k + 1, rfl, by omega, rfl, by first | omega | (dsimp only; omega)⟩
      · obtain rfl : k = X.evs.length := by omega
        have hk1 : ¬ ((X.evs.length : Int) < X.evs.length) := by omega
        simp (disch := omega) only [wp, Nat.reduceAdd, Nat.reduceMul, Nat.reduceSub, gl, e1, e3, e9, hg, hc, hk1, hr]
set_option maxRecDepth 100000 in
set_option maxHeartbeats 4000000 in
theorem st_co (h65 : F 65 = some A_xref06_co) {X : Gr} {loc : Nat} (hl : loc < X.co.length) (hn : X.evs.length ≤ 100) (hc : (X.co.getD loc []).length ≤ 100) (ok : CoOk X loc) : pureS F 65 [.agg (grC X), .i .i64 loc] = some (.b true) := by
  refine pure_of h65 ?_
  have hp := co_part hl
  obtain ⟨ok1, ok2, ok3, ok4, ok5⟩ := ok
  generalize X.co.getD loc [] = l at hp hc ok1 ok2 ok3 ok4 ok5
  simp (disch := omega) only [A_xref06_co, wp, Nat.reduceAdd, Nat.reduceMul, Nat.reduceSub, gl, hp]
  refine blk_cut (fun e g => e 1 = .i .i64 loc ∧ e 2 = .mp 0 0 ∧ e 5 = .sl (intsC l) l.length .non ∧ e 6 = .i .i64 (cntW X loc X.evs.length : Nat) ∧ g.hp 0 = some (.cells (grC X) false) ∧ 0 < g.nx) ?_ ?_
  · refine W_loop (fun q e g => ∃ k : Nat, q = X.evs.length - k ∧ k ≤ X.evs.length ∧ e 1 = .i .i64 loc ∧ e 2 = .mp 0 0 ∧ e 5 = .sl (intsC l) l.length .non ∧ e 6 = .i .i64 (cntW X loc k : Nat) ∧ e 7 = .i .i64 k ∧ g.hp 0 = some (.cells (grC X) false) ∧ 0 < g.nx) X.evs.length ?_ ?_
    · refine ⟨0, rfl, Nat.zero_le _, ?_⟩
      simp (disch := omega) only [wp, Nat.reduceAdd, Nat.reduceMul, Nat.reduceSub]
      exact ⟨rfl, rfl, by first | omega | (dsimp only; omega)⟩
    · rintro q e g ⟨k, rfl, hk, e1, e2, e5, e6, e7, hg, hnx⟩
      by_cases hk' : k < X.evs.length
      · have hk1 : (k : Int) < X.evs.length := by omega
        have hwk := succ_wrap (k := k) (by omega)
        have hkd := ev_kd_at hk'
        have hlc := ev_lc_at hk'
        have hdl : (List.drop (k * 6) (evsC X.evs)).length = X.evs.length * 6 - k * 6 := by rw [List.length_drop, evsC_len]
        have hs := cntW_succ (loc := loc) hk'
        have hle := cntW_le X loc k
        unfold isWr at hs
        generalize cntW X loc k = c at e6 hs hle
        have hwc := succ_wrap (k := c) (by omega)
        generalize X.evs.getD k ev0 = ev at hkd hlc hs
        cases c1 : (ev.kd == 2)
        case false =>
          rw [c1] at hs
          simp (disch := omega) only [wp, Nat.reduceAdd, Nat.reduceMul, Nat.reduceSub, gl, e1, e2, e5, e6, e7, hg, hk1, hkd, hlc, hdl, c1, hwk]
          refine ⟨X.evs.length - (k + 1), by omega, k + 1, rfl, by omega, by rw [hs]; rfl, rfl, by first | omega | (dsimp only; omega)⟩
        cases c2 : (ev.lc == (loc : Int))
        case false =>
          rw [c1, c2] at hs
          simp (disch := omega) only [wp, Nat.reduceAdd, Nat.reduceMul, Nat.reduceSub, gl, e1, e2, e5, e6, e7, hg, hk1, hkd, hlc, hdl, c1, c2, hwk]
          refine ⟨X.evs.length - (k + 1), by omega, k + 1, rfl, by omega, by rw [hs]; rfl, rfl, by first | omega | (dsimp only; omega)⟩
        rw [c1, c2] at hs
        simp (disch := omega) only [wp, Nat.reduceAdd, Nat.reduceMul, Nat.reduceSub, gl, e1, e2, e5, e6, e7, hg, hk1, hkd, hlc, hdl, c1, c2, hwk, hwc]
        refine ⟨X.evs.length - (k + 1), by omega, k + 1, rfl, by omega, by rw [hs]; rfl, rfl, by first | omega | (dsimp only; omega)⟩
      · obtain rfl : k = X.evs.length := by omega
        have hk1 : ¬ ((X.evs.length : Int) < X.evs.length) := by omega
        simp (disch := omega) only [wp, Nat.reduceAdd, Nat.reduceMul, Nat.reduceSub, gl, e1, e2, e5, e6, e7, hg, hk1]
        first | omega | (dsimp only; omega)
  · rintro e g ⟨e1, e2, e5, e6, hg, hnx⟩
    simp (disch := omega) only [wp, Nat.reduceAdd, Nat.reduceMul, Nat.reduceSub, e1, e2, e5, e6]
    have hcl := cntW_le X loc X.evs.length
    rw [← ok3] at e6
    refine W_loop (fun q e g => ∃ i : Nat, q = l.length - i ∧ i ≤ l.length ∧ e 1 = .i .i64 loc ∧ e 2 = .mp 0 0 ∧ e 5 = .sl (intsC l) l.length .non ∧ e 6 = .i .i64 (l.length : Nat) ∧ e 8 = .i .i64 i ∧ g.hp 0 = some (.cells (grC X) false) ∧ 0 < g.nx) l.length ?_ ?_
    · refine ⟨0, rfl, Nat.zero_le _, ?_⟩
      simp (disch := omega) only [wp, Nat.reduceAdd, Nat.reduceMul, Nat.reduceSub, e1, e2, e5, e6]
      exact ⟨rfl, hg, by first | omega | (dsimp only; omega)⟩
    · rintro q e g ⟨i, rfl, hi, e1, e2, e5, e6, e8, hg, hnx⟩
      by_cases hi' : i < l.length
      · have hi1 : (i : Int) < l.length := by omega
        have hwi := succ_wrap (k := i) (by omega)
        have hip := ints_part hi'
        obtain ⟨b1, b2, c1, c2⟩ := ok1 i hi'
        have hkd := ev_kd_at (l := X.evs) (k := (l.getD i 0).toNat) (by omega)
        have hlc := ev_lc_at (l := X.evs) (k := (l.getD i 0).toNat) (by omega)
        have hdl : (List.drop ((l.getD i 0).toNat * 6) (evsC X.evs)).length = X.evs.length * 6 - (l.getD i 0).toNat * 6 := by rw [List.length_drop, evsC_len]
        have c1 : ((X.evs.getD (l.getD i 0).toNat ev0).kd != 2) = false := by rw [c1]; rfl
        have c2 : ((X.evs.getD (l.getD i 0).toNat ev0).lc != (loc : Int)) = false := by rw [c2, bne_self_eq_false]
        have n1 : ¬ l.getD i 0 < 0 := by omega
        have n2 : ¬ (X.evs.length : Int) ≤ l.getD i 0 := by omega
        simp (disch := omega) only [wp, Nat.reduceAdd, Nat.reduceMul, Nat.reduceSub, gl, e1, e2, e5, e6, e8, hg, hi1, hip, n1, n2, hkd, hlc, hdl, c1, c2]
        refine W_loop (fun q e g => ∃ k : Nat, q = i - k ∧ k ≤ i ∧ e 1 = .i .i64 loc ∧ e 2 = .mp 0 0 ∧ e 5 = .sl (intsC l) l.length .non ∧ e 6 = .i .i64 (l.length : Nat) ∧ e 8 = .i .i64 i ∧ e 9 = .i .i64 k ∧ g.hp 0 = some (.cells (grC X) false) ∧ 0 < g.nx) i ?_ ?_
        · refine ⟨0, rfl, Nat.zero_le _, ?_⟩
          simp (disch := omega) only [wp, Nat.reduceAdd, Nat.reduceMul, Nat.reduceSub, e1, e2, e5, e6, e8]
          exact ⟨rfl, hg, by first | omega | (dsimp only; omega)⟩
        · rintro q e g ⟨k, rfl, hk, e1, e2, e5, e6, e8, e9, hg, hnx⟩
          by_cases hk' : k < i
          · have hk1 : (k : Int) < i := by omega
            have hkl : (k : Int) < l.length := by omega
            have hwk := succ_wrap (k := k) (by omega)
            have hkp := ints_part (l := l) (k := k) (by omega)
            have c3 : (l.getD k 0 == l.getD i 0) = false := by simpa using ok2 i hi' k hk'
            simp (disch := omega) only [wp, Nat.reduceAdd, Nat.reduceMul, Nat.reduceSub, gl, e1, e2, e5, e6, e8, e9, hg, hk1, hkl, hi1, hip, hkp, c3, hwk]
            exact ⟨i - (k + 1), by omega, k + 1, rfl, by omega, rfl, by first | omega | (dsimp only; omega)⟩
          · obtain rfl : k = i := by omega
            have hk1 : ¬ ((k : Int) < k) := by omega
            simp (disch := omega) only [wp, Nat.reduceAdd, Nat.reduceMul, Nat.reduceSub, gl, e1, e2, e5, e6, e8, e9, hg, hk1, hwi]
            exact ⟨l.length - (k + 1), by omega, k + 1, rfl, by omega, rfl, by first | omega | (dsimp only; omega)⟩
      · obtain rfl : i = l.length := by omega
        have hi1 : ¬ ((l.length : Int) < l.length) := by omega
        have hip := ints_part (l := l) (k := 0) ok4
        have c9 : (l.getD 0 0 == (loc : Int)) = true := by simpa using ok5
        rw [Nat.zero_mul, List.drop_zero] at hip
        have hpos : (0 : Int) < l.length := by omega
        simp (disch := omega) only [wp, Nat.reduceAdd, Nat.reduceMul, Nat.reduceSub, gl, e1, e2, e5, e6, e8, hg, hi1, hip, hpos, c9]
set_option maxRecDepth 100000 in
set_option maxHeartbeats 4000000 in
theorem st_check (h45 : F 45 = some A_xref06_Check) (h63 : F 63 = some A_xref06_event) (h64 : F 64 = some A_xref06_rf) (h65 : F 65 = some A_xref06_co) (h66 : F 66 = some A_xref06_rmw) (h67 : F 67 = some A_xref06_deps) (h82 : F 82 = some A_xref06_rising) {X : Gr} (hX : FewG X) (ok : GraphOk X) : pureS F 45 [.agg (grC X)] = some (.b true) := by
  refine pure_of h45 ?_
  obtain ⟨l1, l4, nl, n40, hrl, hcl, hev, hrf, hco, hrm, hda, hct, hci⟩ := ok
  have c5 : ((X.rf.length : Int) != (X.evs.length : Int)) = false := by simp [hrl]
  have c6 : ((X.co.length : Int) != X.locs) = false := by simp [hcl]
  have r1 := st_rmw h66 h82 (X := X) (by omega) (by have := hX.rmw; omega) hrm
  have r2 := st_deps h67 h82 X X.data .non (by have := hX.data; omega) hda
  have r3 := st_deps h67 h82 X X.ctrl .non (by have := hX.ctrl; omega) hct
  have r4 := st_deps h67 h82 X X.ctrli .non (by have := hX.ctrli; omega) hci
  have q1 : ¬ X.locs < 1 := by omega
  have q2 : ¬ 4 < X.locs := by omega
  have q3 : ¬ (X.evs.length : Int) < X.locs := by omega
  have q4 : ¬ 40 < (X.evs.length : Int) := by omega
  simp (disch := omega) only [A_xref06_Check, wp, Nat.reduceAdd, Nat.reduceMul, Nat.reduceSub, gl, q1, q2, q3, q4, c5, c6]
  refine blk_cut (fun e g => e 1 = .mp 0 0 ∧ g.hp 0 = some (.cells (grC X) false) ∧ 0 < g.nx) ?_ ?_
  · refine W_loop (fun q e g => ∃ k : Nat, q = X.evs.length - k ∧ k ≤ X.evs.length ∧ e 1 = .mp 0 0 ∧ e 3 = .i .i64 X.evs.length ∧ e 4 = .i .i64 k ∧ g.hp 0 = some (.cells (grC X) false) ∧ 0 < g.nx) X.evs.length ?_ ?_
    · refine ⟨0, rfl, Nat.zero_le _, ?_⟩
      simp (disch := omega) only [wp, Nat.reduceAdd, Nat.reduceMul, Nat.reduceSub]
      exact ⟨rfl, by first | omega | (dsimp only; omega)⟩
    · rintro q e g ⟨k, rfl, hk, e1, e3, e4, hg, hnx⟩
      by_cases hk' : k < X.evs.length
      · have hk1 : (k : Int) < X.evs.length := by omega
        have hwk := succ_wrap (k := k) (by omega)
        have h1 := st_event h63 hk' (by omega) (by omega) (hev k hk')
        have h2 := st_rf h64 hk' (by omega) (hrf k hk')
        simp (disch := omega) only [wp, Nat.reduceAdd, Nat.reduceMul, Nat.reduceSub, gl, e1, e3, e4, hg, hk1, h1, h2, hwk]
        exact ⟨X.evs.length - (k + 1), by omega, k + 1, rfl, by omega, rfl, by first | omega | (dsimp only; omega)⟩
      · obtain rfl : k = X.evs.length := by omega
        have hk1 : ¬ ((X.evs.length : Int) < X.evs.length) := by omega
        simp (disch := omega) only [wp, Nat.reduceAdd, Nat.reduceMul, Nat.reduceSub, gl, e1, e3, e4, hg, hk1]
        exact (by first | omega | (dsimp only; omega))
  · rintro e g ⟨e1, hg, hnx⟩
    simp (disch := omega) only [wp, Nat.reduceAdd, Nat.reduceMul, Nat.reduceSub, e1]
    refine blk_cut (fun e g => e 1 = .mp 0 0 ∧ g.hp 0 = some (.cells (grC X) false) ∧ 0 < g.nx) ?_ ?_
    · refine W_loop (fun q e g => ∃ k : Nat, q = X.co.length - k ∧ k ≤ X.co.length ∧ e 1 = .mp 0 0 ∧ e 5 = .i .i64 k ∧ g.hp 0 = some (.cells (grC X) false) ∧ 0 < g.nx) X.co.length ?_ ?_
      · refine ⟨0, rfl, Nat.zero_le _, ?_⟩
        simp (disch := omega) only [wp, Nat.reduceAdd, Nat.reduceMul, Nat.reduceSub, e1]
        exact ⟨rfl, hg, by first | omega | (dsimp only; omega)⟩
      · rintro q e g ⟨k, rfl, hk, e1, e5, hg, hnx⟩
        by_cases hk' : k < X.co.length
        · have hk1 : (k : Int) < X.locs := by omega
          have hwk := succ_wrap (k := k) (by omega)
          have h1 := st_co h65 hk' (by have := hX.evs; omega) (by
            have hm : X.co.getD k [] ∈ X.co := by
              rw [List.getD_eq_getElem?_getD, List.getElem?_eq_getElem hk']; exact List.getElem_mem hk'
            have := hX.cos _ hm; omega) (hco k hk')
          simp (disch := omega) only [wp, Nat.reduceAdd, Nat.reduceMul, Nat.reduceSub, gl, e1, e5, hg, hk1, h1, hwk]
          exact ⟨X.co.length - (k + 1), by omega, k + 1, rfl, by omega, rfl, by first | omega | (dsimp only; omega)⟩
        · obtain rfl : k = X.co.length := by omega
          have hk1 : ¬ ((X.co.length : Int) < X.locs) := by omega
          simp (disch := omega) only [wp, Nat.reduceAdd, Nat.reduceMul, Nat.reduceSub, gl, e1, e5, hg, hk1]
          exact (by first | omega | (dsimp only; omega))
    · rintro e g ⟨e1, hg, hnx⟩
      simp (disch := omega) only [wp, Nat.reduceAdd, Nat.reduceMul, Nat.reduceSub, gl, e1, hg, r1, r2, r3, r4]
end Go.Ab
end
section
namespace Go.Ab
def A_xref12_Coherent : AFun := { res := [.t 2], body := (.seq (.reg false [{ dst := some 1, op := .box (.t 0) },
  { dst := some 2, op := .mv (.c (.b false)) }])
 (.seq (.reg false [{ dst := some 4, op := .ld (some 8) (.t 1) },
  { dst := some 5, op := .call .pure (.c (.fn 185 [] [])) [.t 4] },
  { dst := some 3, op := .mv (.t 5) }])
 (.seq (.reg false [{ dst := some 6, op := .mv (.t 3) },
  { dst := some 7, op := .call .pure (.c (.fn 265 [] [])) [.t 6] },
  { dst := some 8, op := .un .not (.t 7) },
  { dst := some 9, op := .mv (.t 8) },
  { dst := some 10, op := .mv (.t 3), grd := some (9, true) },
  { dst := some 11, op := .ld (some 8) (.t 1), grd := some (9, true) },
  { dst := some 12, op := .call .pure (.c (.fn 72 [] [])) [.t 11], grd := some (9, true) },
  { dst := some 13, op := .call .pure (.c (.fn 32 [] [])) [.t 10, .t 12], grd := some (9, true) },
  { dst := some 14, op := .call .pure (.c (.fn 265 [] [])) [.t 13], grd := some (9, true) },
  { dst := some 15, op := .un .not (.t 14), grd := some (9, true) },
  { dst := some 16, op := .pick (.t 9) (.t 15) (.c (.b false)) },
  { dst := some 2, op := .mv (.t 16) }])
 .ret))) }
def A_xref12_Atomic : AFun := { res := [.t 2], body := (.seq (.reg false [{ dst := some 1, op := .box (.t 0) },
  { dst := some 2, op := .mv (.c (.b false)) }])
 (.seq (.reg true [{ dst := some 5, op := .ld (some 8) (.t 1), pre := [] },
  { dst := some 6, op := .ld (some 8) (.t 1), pre := [] },
  { dst := some 7, op := .call .pure (.c (.fn 71 [] [])) [.t 6], pre := [] },
  { dst := some 8, op := .call .pure (.c (.fn 75 [] [])) [.t 5, .t 7], pre := [] },
  { dst := some 9, op := .ld (some 8) (.t 1), pre := [] },
  { dst := some 10, op := .ld (some 8) (.t 1), pre := [] },
  { dst := some 11, op := .call .pure (.c (.fn 70 [] [])) [.t 10], pre := [] },
  { dst := some 12, op := .call .pure (.c (.fn 75 [] [])) [.t 9, .t 11], pre := [] },
  { dst := some 3, op := .mv (.t 8) },
  { dst := some 4, op := .mv (.t 12) }])
 (.seq (.reg false [{ dst := some 13, op := .ld (some 8) (.t 1) },
  { dst := some 14, op := .fa 4 (.t 1) },
  { dst := some 15, op := .ld none (.t 14) },
  { dst := some 16, op := .call .pure (.c (.fn 223 [] [])) [.t 13, .t 15] },
  { dst := some 17, op := .mv (.t 3) },
  { dst := some 18, op := .mv (.t 4) },
  { dst := some 19, op := .call .pure (.c (.fn 32 [] [])) [.t 17, .t 18] },
  { dst := some 20, op := .call .pure (.c (.fn 30 [] [])) [.t 16, .t 19] },
  { dst := some 21, op := .call .pure (.c (.fn 56 [] [])) [.t 20] },
  { dst := some 22, op := .len (.t 21) },
  { dst := some 23, op := .bin .eql (.t 22) (.c (.i .i64 0)) },
  { dst := some 2, op := .mv (.t 23) }])
 .ret))) }
def A_xref12_Ordered : AFun := { res := [.t 2], body := (.seq (.reg false [{ dst := some 1, op := .box (.t 0) },
  { dst := some 2, op := .mv (.c (.b false)) }])
 (.seq (.reg false [{ dst := some 3, op := .ld (some 8) (.t 1) },
  { dst := some 4, op := .call .pure (.c (.fn 260 [] [])) [.t 3] },
  { dst := some 5, op := .call .pure (.c (.fn 37 [] [])) [.t 4] },
  { dst := some 6, op := .un .not (.t 5) },
  { dst := some 2, op := .mv (.t 6) }])
 .ret)) }
def A_xref12_Consistent : AFun := { res := [.t 2], body := (.seq (.reg false [{ dst := some 1, op := .box (.t 0) },
  { dst := some 2, op := .mv (.c (.b false)) }])
 (.seq (.reg false [{ dst := some 3, op := .ld (some 8) (.t 1) },
  { dst := some 4, op := .call .pure (.c (.fn 45 [] [])) [.t 3] },
  { dst := some 5, op := .mv (.t 4) },
  { dst := some 6, op := .ld (some 8) (.t 1), grd := some (5, true) },
  { dst := some 7, op := .call .pure (.c (.fn 261 [] [])) [.t 6], grd := some (5, true) },
  { dst := some 8, op := .pick (.t 5) (.t 7) (.c (.b false)) },
  { dst := some 9, op := .mv (.t 8) },
  { dst := some 10, op := .ld (some 8) (.t 1), grd := some (9, true) },
  { dst := some 11, op := .call .pure (.c (.fn 262 [] [])) [.t 10], grd := some (9, true) },
  { dst := some 12, op := .pick (.t 9) (.t 11) (.c (.b false)) },
  { dst := some 13, op := .mv (.t 12) },
  { dst := some 14, op := .ld (some 8) (.t 1), grd := some (13, true) },
  { dst := some 15, op := .call .pure (.c (.fn 263 [] [])) [.t 14], grd := some (13, true) },
  { dst := some 16, op := .pick (.t 13) (.t 15) (.c (.b false)) },
  { dst := some 2, op := .mv (.t 16) }])
 .ret)) }
structure Pk_xref12 (F : Funs) : Prop where
  xref12_Coherent : F 261 = some A_xref12_Coherent
  xref12_Atomic : F 262 = some A_xref12_Atomic
  xref12_Ordered : F 263 = some A_xref12_Ordered
  xref12_Consistent : F 264 = some A_xref12_Consistent
end Go.Ab
end
section
set_option linter.unusedVariables false
set_option linter.unusedSimpArgs false
namespace Go.Ab
variable {F : Funs}
set_option maxRecDepth 100000 in
set_option maxHeartbeats 1000000 in
theorem sp_mself (h : F 265 = some A_xref01_R_Self) {n : Nat} (hn : n ≤ 40) (T : Mx) : pureS F 265 [.ptr (matC n T)] = some (.b ((List.range n).any fun a => T a a)) := by
  refine pure_of h ?_
  simp (disch := omega) only [A_xref01_R_Self, wp, Nat.reduceAdd, Nat.reduceMul, Nat.reduceSub, ml]
  refine W_loop (fun m e g => ∃ k, m = n - k ∧ k ≤ n ∧ e 0 = .ptr (matC n T) ∧ e 3 = .i .i64 k ∧ ∀ a, a < k → T a a = false) n ?_ ?_
  · refine ⟨0, rfl, Nat.zero_le _, ?_⟩
    simp (disch := omega) only [wp, Nat.reduceAdd, Nat.reduceMul, Nat.reduceSub]
    exact ⟨rfl, fun a ha => absurd ha (Nat.not_lt_zero _)⟩
  · rintro m e g ⟨k, rfl, hk, h3, h4, hall⟩
    by_cases hk' : k < n
    · have hk1 : (k : Int) < n := by omega
      have hw := succ_wrap (k := k) (by omega)
      cases hh : T k k with
      | true =>
        simp (disch := omega) only [wp, Nat.reduceAdd, Nat.reduceMul, Nat.reduceSub, ml, h3, h4, hk1, hw, hh]
        have : (List.range n).any (fun a => T a a) = true := List.any_eq_true.2 ⟨k, List.mem_range.2 hk', hh⟩
        rw [this]
      | false =>
        simp (disch := omega) only [wp, Nat.reduceAdd, Nat.reduceMul, Nat.reduceSub, ml, h3, h4, hk1, hw, hh]
        refine ⟨n - (k + 1), by omega, k + 1, rfl, by omega, rfl, fun a ha => ?_⟩
        by_cases hak : a = k
        · subst hak; exact hh
        · exact hall a (by omega)
    · obtain rfl : k = n := by omega
      have hk1 : ¬ ((k : Int) < k) := by omega
      simp (disch := omega) only [wp, Nat.reduceAdd, Nat.reduceMul, Nat.reduceSub, ml, h3, h4, hk1]
      have : (List.range k).any (fun a => T a a) = false := List.any_eq_false.2 fun a ha => by rw [hall a (List.mem_range.1 ha)]; simp
      rw [this]
theorem any_eqN {n : Nat} {A : Mx} {R : Rw} (h : EqN n A R) : ((List.range n).any fun a => A a a) = (List.range n).any fun a => has n R (a : Nat) (a : Nat) := by
  rw [Bool.eq_iff_iff, List.any_eq_true, List.any_eq_true]
  constructor
  · rintro ⟨a, ha, h1⟩
    have ha' := List.mem_range.1 ha
    refine ⟨a, ha, ?_⟩
    rw [h.2 a a ha' ha'] at h1
    unfold has
    rw [Bool.and_eq_true]
    exact ⟨decide_eq_true ⟨by omega, by omega, by omega, by omega⟩, h1⟩
  · rintro ⟨a, ha, h1⟩
    have ha' := List.mem_range.1 ha
    refine ⟨a, ha, ?_⟩
    rw [h.2 a a ha' ha']
    unfold has at h1
    rw [Bool.and_eq_true] at h1
    exact h1.2
structure Ref12F (F : Funs) : Prop where
  r : RefF F
  p : Pk_xref11 F
  p10 : Pk_xref10 F
  p12 : Pk_xref12 F
  h83 : F 83 = some A_xref09_Com
  h72 : F 72 = some A_xref09_Eco
  hs : F 265 = some A_xref01_R_Self
  hlo : F 37 = some A_xref01_R_Loops
section
variable (S : Ref12F F) {X : Gr} (hX : FewG X) (h : GraphOk X)
include S hX h
end
end Go.Ab
end
section
set_option linter.unusedVariables false
set_option linter.unusedSimpArgs false
namespace Go.Ab
variable {F : Funs}
def rstepQ (n : Nat) (f q : Q4) : Q4 := ⟨orR (orR (orR (orR f.ii q.ci) (thenR n q.ic q.ci)) (thenR n q.ii q.ii)) q.ii, orR (orR (orR (orR q.ii q.cc) (thenR n q.ic q.cc)) (thenR n q.ii q.ic)) q.ic, orR (orR (orR f.ci (thenR n q.ci q.ii)) (thenR n q.cc q.ci)) q.ci, orR (orR (orR (orR f.cc q.ci) (thenR n q.ci q.ic)) (thenR n q.cc q.cc)) q.cc⟩
section
variable {n : Nat} {f q : Q4} (wf : WfQ n f) (w : WfQ n q)
include wf w
theorem rstepQ_wf : WfQ n (rstepQ n f q) :=
  ⟨wf_or (wf_or (wf_or (wf_or wf.ii w.ci) (wf_then w.ic w.ci)) (wf_then w.ii w.ii)) w.ii, wf_or (wf_or (wf_or (wf_or w.ii w.cc) (wf_then w.ic w.cc)) (wf_then w.ii w.ic)) w.ic, wf_or (wf_or (wf_or wf.ci (wf_then w.ci w.ii)) (wf_then w.cc w.ci)) w.ci, wf_or (wf_or (wf_or (wf_or wf.cc w.ci) (wf_then w.ci w.ic)) (wf_then w.cc w.cc)) w.cc⟩
omit wf w in
theorem rstepQ_ge : LeQ q (rstepQ n f q) := by
  refine ⟨fun a b h => ?_, fun a b h => ?_, fun a b h => ?_, fun a b h => ?_⟩ <;> simp only [rstepQ, hb_or, h, Bool.or_true]
omit wf in
theorem rstepQ_in (h : InP f q) : InP f (rstepQ n f q) := by
  refine ⟨fun a b k => ?_, fun a b k => ?_, fun a b k => ?_, fun a b k => ?_⟩ <;> simp only [rstepQ, hb_or, Bool.or_eq_true] at k
  · rcases k with (((k | k) | k) | k) | k
    · exact .b0 k
    · exact .r1 (h.ci a b k)
    · obtain ⟨c, k1, k2⟩ := (hb_then w.ic a b).1 k; exact .r2 (h.ic _ _ k1) (h.ci _ _ k2)
    · obtain ⟨c, k1, k2⟩ := (hb_then w.ii a b).1 k; exact .r3 (h.ii _ _ k1) (h.ii _ _ k2)
    · exact h.ii a b k
  · rcases k with (((k | k) | k) | k) | k
    · exact .r4 (h.ii a b k)
    · exact .r5 (h.cc a b k)
    · obtain ⟨c, k1, k2⟩ := (hb_then w.ic a b).1 k; exact .r6 (h.ic _ _ k1) (h.cc _ _ k2)
    · obtain ⟨c, k1, k2⟩ := (hb_then w.ii a b).1 k; exact .r7 (h.ii _ _ k1) (h.ic _ _ k2)
    · exact h.ic a b k
  · rcases k with ((k | k) | k) | k
    · exact .b2 k
    · obtain ⟨c, k1, k2⟩ := (hb_then w.ci a b).1 k; exact .r8 (h.ci _ _ k1) (h.ii _ _ k2)
    · obtain ⟨c, k1, k2⟩ := (hb_then w.cc a b).1 k; exact .r9 (h.cc _ _ k1) (h.ci _ _ k2)
    · exact h.ci a b k
  · rcases k with (((k | k) | k) | k) | k
    · exact .b3 k
    · exact .r10 (h.ci a b k)
    · obtain ⟨c, k1, k2⟩ := (hb_then w.ci a b).1 k; exact .r11 (h.ci _ _ k1) (h.ic _ _ k2)
    · obtain ⟨c, k1, k2⟩ := (hb_then w.cc a b).1 k; exact .r12 (h.cc _ _ k1) (h.cc _ _ k2)
    · exact h.cc a b k
omit wf in
theorem rstepQ_clo (h : LeQ (rstepQ n f q) q) : Clo q := by
  have t1 := fun a c b (x : hb q.ic a c = true) (y : hb q.ci c b = true) => (hb_then w.ic a b).2 ⟨c, x, y⟩
  have t2 := fun a c b (x : hb q.ii a c = true) (y : hb q.ii c b = true) => (hb_then w.ii a b).2 ⟨c, x, y⟩
  have t3 := fun a c b (x : hb q.ic a c = true) (y : hb q.cc c b = true) => (hb_then w.ic a b).2 ⟨c, x, y⟩
  have t4 := fun a c b (x : hb q.ii a c = true) (y : hb q.ic c b = true) => (hb_then w.ii a b).2 ⟨c, x, y⟩
  have t5 := fun a c b (x : hb q.ci a c = true) (y : hb q.ii c b = true) => (hb_then w.ci a b).2 ⟨c, x, y⟩
  have t6 := fun a c b (x : hb q.cc a c = true) (y : hb q.ci c b = true) => (hb_then w.cc a b).2 ⟨c, x, y⟩
  have t7 := fun a c b (x : hb q.ci a c = true) (y : hb q.ic c b = true) => (hb_then w.ci a b).2 ⟨c, x, y⟩
  have t8 := fun a c b (x : hb q.cc a c = true) (y : hb q.cc c b = true) => (hb_then w.cc a b).2 ⟨c, x, y⟩
  refine ⟨fun a b x => h.ii a b ?_, fun a c b x y => h.ii a b ?_, fun a c b x y => h.ii a b ?_, fun a b x => h.ic a b ?_, fun a b x => h.ic a b ?_, fun a c b x y => h.ic a b ?_, fun a c b x y => h.ic a b ?_, fun a c b x y => h.ci a b ?_, fun a c b x y => h.ci a b ?_, fun a b x => h.cc a b ?_, fun a c b x y => h.cc a b ?_, fun a c b x y => h.cc a b ?_⟩ <;> simp only [rstepQ, hb_or]
  · rw [x]; simp
  · rw [t1 a c b x y]; simp
  · rw [t2 a c b x y]; simp
  · rw [x]; simp
  · rw [x]; simp
  · rw [t3 a c b x y]; simp
  · rw [t4 a c b x y]; simp
  · rw [t5 a c b x y]; simp
  · rw [t6 a c b x y]; simp
  · rw [x]; simp
  · rw [t7 a c b x y]; simp
  · rw [t8 a c b x y]; simp
end
theorem EqN.to {n : Nat} {A : Mx} {R R' : Rw} (h : EqN n A R') (w : Wf n R) (h1 : ∀ a b, hb R a b = true → hb R' a b = true) (h2 : ∀ a b, hb R' a b = true → hb R a b = true) : EqN n A R :=
  ⟨w, fun a b ha hb' => by rw [h.2 a b ha hb', Bool.eq_iff_iff]; exact ⟨h2 a b, h1 a b⟩⟩
theorem frz_agg4 (hp) (a b c d : List AV) : frz hp depth (.agg [.ptr a, .ptr b, .ptr c, .ptr d]) = some (.agg [.ptr a, .ptr b, .ptr c, .ptr d]) := by
  show frz hp (8 + 1) _ = _
  simp only [frz, frzL, Option.map_some]
set_option maxRecDepth 100000 in
set_option maxHeartbeats 16000000 in
theorem sp_mparts (h36 : F 36 = some A_xref01_R_In) (h31 : F 31 = some A_xref01_R_Less) (S : RefF F) (p : Pk_xref19 F) {X : Gr} (hX : FewG X) (h : GraphOk X) : ∃ A1 A2 A3 A4 q, pureS F 171 [.agg (grC X)] = some (.agg [.ptr (matC X.evs.length A1), .ptr (matC X.evs.length A2), .ptr (matC X.evs.length A3), .ptr (matC X.evs.length A4)]) ∧
    EqN X.evs.length A1 q.ii ∧ EqN X.evs.length A2 q.ic ∧ EqN X.evs.length A3 q.ci ∧ EqN X.evs.length A4 q.cc ∧ Clo q ∧ LeQ (q0Q X) q ∧ InP (q0Q X) q := by
  have key : ∃ v, pureS F 171 [.agg (grC X)] = some v ∧ (∃ A1 A2 A3 A4 q, v = .agg [.ptr (matC X.evs.length A1), .ptr (matC X.evs.length A2), .ptr (matC X.evs.length A3), .ptr (matC X.evs.length A4)] ∧ EqN X.evs.length A1 q.ii ∧ EqN X.evs.length A2 q.ic ∧ EqN X.evs.length A3 q.ci ∧ EqN X.evs.length A4 q.cc ∧ Clo q ∧ LeQ (q0Q X) q ∧ InP (q0Q X) q) := by
    refine pureE_of p.xref19_Parts ?_
    have n40 := h.n40
    have dn : pureS F 27 [.i .i64 X.evs.length, .sl [] 0 .non] = some (.ptr (matC X.evs.length (newM X.evs.length []))) := by
      have := sp_newM S.px.xref01_New (X.evs.length : Int) [] .non (by simp)
      rwa [show clamp (X.evs.length : Int) = X.evs.length by unfold clamp; omega] at this
    have r4 : ∀ x : AV, List.replicate 4 x = [x, x, x, x] := fun _ => rfl
    have s4 : ∀ a b c d w x y z : AV, splice [a, b, c, d] 0 [w, x, y, z] = [w, x, y, z] := fun _ _ _ _ _ _ _ _ => rfl
    have p4 : ∀ a b c d : AV, part [a, b, c, d] 0 (some 4) = some (.agg [a, b, c, d]) := fun _ _ _ _ => rfl
    have l1 : X.data.length ≤ 1000 := by have := hX.data; omega
    have l2 : X.ctrl.length ≤ 1000 := by have := hX.ctrl; omega
    have l3 : X.ctrli.length ≤ 1000 := by have := hX.ctrli; omega
    have w0 : WfQ X.evs.length (q0Q X) := by have := q0_wf X; rwa [h.nOf] at this
    have hq0 : q0Q X = ⟨orR (orR (newR X.evs.length X.data) (rdwR X)) (partR inner X X.evs.length (rfR X)), newR X.evs.length [], orR (thenR X.evs.length (newR X.evs.length X.ctrli) (setR X pM)) (detR X), orR (orR (newR X.evs.length X.data) (plocR X)) (thenR X.evs.length (newR X.evs.length X.ctrl) (setR X pM))⟩ := by unfold q0Q; rw [h.nOf]
    have f1 := ((EqN.new n40 X.data).or (eq_rdw h)).or (eq_inner h (eq_rf h))
    have f2 := EqN.new n40 []
    have f3 := ((EqN.new n40 X.ctrli).then (eq_M h)).or (eq_det h)
    have f4 := ((EqN.new n40 X.data).or (eq_ploc h)).or ((EqN.new n40 X.ctrl).then (eq_M h))
    have g1 : (q0Q X).ii = orR (orR (newR X.evs.length X.data) (rdwR X)) (partR inner X X.evs.length (rfR X)) := by rw [hq0]
    have g2 : (q0Q X).ic = newR X.evs.length [] := by rw [hq0]
    have g3 : (q0Q X).ci = orR (thenR X.evs.length (newR X.evs.length X.ctrli) (setR X pM)) (detR X) := by rw [hq0]
    have g4 : (q0Q X).cc = orR (orR (newR X.evs.length X.data) (plocR X)) (thenR X.evs.length (newR X.evs.length X.ctrl) (setR X pM)) := by rw [hq0]
    unfold rfR at g1
    rw [← g1] at f1
    rw [← g2] at f2
    rw [← g3] at f3
    rw [← g4] at f4
    have em : mM19 X = opM (fun x y => x || y) (kindK X (kindQ 1 0 4) X.evs.length) (kindK X (kindQ 2 0 4) X.evs.length) X.evs.length := rfl
    have ep : plM19 X = opM (fun x y => x && y) (locM X) (miV X) X.evs.length := rfl
    rw [← em] at f3 f4
    rw [← ep] at f4
    have mM := mM19_sp S p h
    have mD := mDet S p hX h
    have mR := mRdw S p hX h
    have mP := mPloc S p h
    simp (disch := omega) only [A_xref19_Parts, wp, Nat.reduceAdd, Nat.reduceMul, Nat.reduceSub, gl, mM, mD, mR, mP, S.ofL h X.data l1, S.ofL h X.ctrl l2, S.ofL h X.ctrli l3, S.then h, S.or h, S.rf h, S.inner h, dn, r4, s4, p4, List.length_set]
    generalize hM1 : opM (fun x y => x || y) (opM (fun x y => x || y) (newM X.evs.length X.data) (rdwM X) X.evs.length) (prtM X true (anyM (rfL X X.rf.length))) X.evs.length = M1 at f1
    generalize hM2 : newM X.evs.length [] = M2 at f2
    generalize hM3 : opM (fun x y => x || y) (thM (newM X.evs.length X.ctrli) (mM19 X) X.evs.length X.evs.length) (detM X) X.evs.length = M3 at f3
    generalize hM4 : opM (fun x y => x || y) (opM (fun x y => x || y) (newM X.evs.length X.data) (plM19 X) X.evs.length) (thM (newM X.evs.length X.ctrl) (mM19 X) X.evs.length X.evs.length) X.evs.length = M4 at f4
    generalize q0Q X = q0 at w0 f1 f2 f3 f4
    generalize X.evs.length = n at *
    refine W_loop (fun m e g => ∃ q A1 A2 A3 A4, m = 6400 - cntQ n q ∧ WfQ n q ∧ LeQ q0 q ∧ InP q0 q ∧ EqN n A1 q.ii ∧ EqN n A2 q.ic ∧ EqN n A3 q.ci ∧ EqN n A4 q.cc ∧ e 2 = .mp 1 0 ∧ e 9 = .mp 52 0 ∧ e 10 = .mp 55 0 ∧ g.hp 1 = some (.cells [.nilp, .nilp, .nilp, .nilp] false) ∧ g.hp 52 = some (.cells [.ptr (matC n M1), .ptr (matC n M2), .ptr (matC n M3), .ptr (matC n M4)] false) ∧ g.hp 55 = some (.cells [.ptr (matC n A1), .ptr (matC n A2), .ptr (matC n A3), .ptr (matC n A4)] false) ∧ 55 < g.nx) (6400 - cntQ n q0) ?_ ?_
    · refine ⟨q0, M1, M2, M3, M4, rfl, w0, LeQ.refl _, InP.base _, f1, f2, f3, f4, ?_⟩
      simp (disch := omega) only [wp, Nat.reduceAdd, Nat.reduceMul, Nat.reduceSub]
      first | omega | (dsimp only; omega)
    · rintro m e g ⟨q, A1, A2, A3, A4, rfl, w, lq, iq, a1, a2, a3, a4, e2, e9, e10, hr, hf, hc, hnx⟩
      have b1 := ((((f1.or a3).or (a2.then a3)).or (a1.then a1)).or a1)
      have b2 := ((((a1.or a4).or (a2.then a4)).or (a1.then a2)).or a2)
      have b3 := (((f3.or (a3.then a1)).or (a4.then a3)).or a3)
      have b4 := ((((f4.or a3).or (a3.then a2)).or (a4.then a4)).or a4)
      have i1 := sp_minN h36 h31 S.px.xref01_New S.px.xref01_R_Pairs n40 b1 a1
      have i2 := sp_minN h36 h31 S.px.xref01_New S.px.xref01_R_Pairs n40 b2 a2
      have i3 := sp_minN h36 h31 S.px.xref01_New S.px.xref01_R_Pairs n40 b3 a3
      have i4 := sp_minN h36 h31 S.px.xref01_New S.px.xref01_R_Pairs n40 b4 a4
      have tor : ∀ A B : Mx, pureS F 29 [.ptr (matC n A), .ptr (matC n B)] = some (.ptr (matC n (opM (fun x y => x || y) A B n))) := fun A B => by
        have := sp_mor S.px.xref01_R_Or S.px.xref01_New n40 n40 A B
        rwa [Nat.max_self] at this
      have tth : ∀ A B : Mx, pureS F 32 [.ptr (matC n A), .ptr (matC n B)] = some (.ptr (matC n (thM A B n n))) := fun A B => by
        have := sp_mthen S.px.xref01_R_Then S.px.xref01_New n40 n40 A B
        rwa [Nat.max_self] at this
      have ws := rstepQ_wf w0 w
      have ge := rstepQ_ge (n := n) (f := q0) (q := q)
      have ii := rstepQ_in w iq
      have hcl := cntQ_le n40 (rstepQ n q0 q)
      have hlt := cntQ_lt n40 ws ge
      have hsb : subQ (rstepQ n q0 q) q = (noneR (lessR (rstepQ n q0 q).ii q.ii) && (noneR (lessR (rstepQ n q0 q).ic q.ic) && (noneR (lessR (rstepQ n q0 q).ci q.ci) && noneR (lessR (rstepQ n q0 q).cc q.cc)))) := rfl
      have clo := fun hs => rstepQ_clo w (subQ_le n40 ws hs)
      have lee := fun hs => subQ_le n40 ws (q := q) hs
      have B1 : EqN n _ (rstepQ n q0 q).ii := b1
      have B2 : EqN n _ (rstepQ n q0 q).ic := b2
      have B3 : EqN n _ (rstepQ n q0 q).ci := b3
      have B4 : EqN n _ (rstepQ n q0 q).cc := b4
      have I1 : _ = some (AV.b (noneR (lessR (rstepQ n q0 q).ii q.ii))) := i1
      have I2 : _ = some (AV.b (noneR (lessR (rstepQ n q0 q).ic q.ic))) := i2
      have I3 : _ = some (AV.b (noneR (lessR (rstepQ n q0 q).ci q.ci))) := i3
      have I4 : _ = some (AV.b (noneR (lessR (rstepQ n q0 q).cc q.cc))) := i4
      clear b1 b2 b3 b4 i1 i2 i3 i4
      generalize rstepQ n q0 q = q' at *
      cases c1 : noneR (lessR q'.ii q.ii)
      case false =>
        rw [c1] at I1 hsb
        simp (disch := omega) only [wp, Nat.reduceAdd, Nat.reduceMul, Nat.reduceSub, gl, e2, e9, e10, hr, hf, hc, r4, s4, p4, List.length_set, tor, tth, I1, retE_ret]
        exact ⟨6400 - cntQ n q', by have := hlt hsb; omega, q', _, _, _, _, rfl, ws, lq.trans ge, ii, B1, B2, B3, B4, rfl, by first | omega | (dsimp only; omega)⟩
      cases c2 : noneR (lessR q'.ic q.ic)
      case false =>
        rw [c1] at I1 hsb
        rw [c2] at I2 hsb
        simp (disch := omega) only [wp, Nat.reduceAdd, Nat.reduceMul, Nat.reduceSub, gl, e2, e9, e10, hr, hf, hc, r4, s4, p4, List.length_set, tor, tth, I1, I2, retE_ret]
        exact ⟨6400 - cntQ n q', by have := hlt hsb; omega, q', _, _, _, _, rfl, ws, lq.trans ge, ii, B1, B2, B3, B4, rfl, by first | omega | (dsimp only; omega)⟩
      cases c3 : noneR (lessR q'.ci q.ci)
      case false =>
        rw [c1] at I1 hsb
        rw [c2] at I2 hsb
        rw [c3] at I3 hsb
        simp (disch := omega) only [wp, Nat.reduceAdd, Nat.reduceMul, Nat.reduceSub, gl, e2, e9, e10, hr, hf, hc, r4, s4, p4, List.length_set, tor, tth, I1, I2, I3, retE_ret]
        exact ⟨6400 - cntQ n q', by have := hlt hsb; omega, q', _, _, _, _, rfl, ws, lq.trans ge, ii, B1, B2, B3, B4, rfl, by first | omega | (dsimp only; omega)⟩
      cases c4 : noneR (lessR q'.cc q.cc)
      case false =>
        rw [c1] at I1 hsb
        rw [c2] at I2 hsb
        rw [c3] at I3 hsb
        rw [c4] at I4 hsb
        simp (disch := omega) only [wp, Nat.reduceAdd, Nat.reduceMul, Nat.reduceSub, gl, e2, e9, e10, hr, hf, hc, r4, s4, p4, List.length_set, tor, tth, I1, I2, I3, I4, retE_ret]
        exact ⟨6400 - cntQ n q', by have := hlt hsb; omega, q', _, _, _, _, rfl, ws, lq.trans ge, ii, B1, B2, B3, B4, rfl, by first | omega | (dsimp only; omega)⟩
      rw [c1, c2, c3, c4] at hsb
      rw [c1] at I1
      rw [c2] at I2
      rw [c3] at I3
      rw [c4] at I4
      have lq' := lee hsb
      simp (disch := omega) only [wp, Nat.reduceAdd, Nat.reduceMul, Nat.reduceSub, gl, e2, e9, e10, hr, hf, hc, r4, s4, p4, List.length_set, tor, tth, I1, I2, I3, I4, retE_ret, res_cell, resC, frz_agg4]
      exact ⟨_, rfl, _, _, _, _, q, rfl, B1.to w.ii ge.ii lq'.ii, B2.to w.ic ge.ic lq'.ic, B3.to w.ci ge.ci lq'.ci, B4.to w.cc ge.cc lq'.cc, clo hsb, lq, iq⟩
  obtain ⟨v, hv, A1, A2, A3, A4, q, rfl, h1⟩ := key
  exact ⟨A1, A2, A3, A4, q, hv, h1⟩
end Go.Ab
end
section
set_option linter.unusedVariables false
set_option linter.unusedSimpArgs false
namespace Go.Ab
open Go.RowKit
section
variable {H : Type} {enc : TypeId × Value → H} {P : Program} {c : Cx}
theorem read_agg (hb : c.base = c.w.heap.size) (hJ : c.J = fun _ => True) (m : Nat) {t : TypeId} {cs : Array Value} {d : DataW H} {ps : List MemPlace} (hp : plainB P m t = true) (h : DataW.Trod enc P c.w 0 (fun _ => true) true t (.agg cs) d ps) :
    ∃ asx, Sh P m t asx ∧ Rep c true (.agg asx) (.agg cs) := by
  obtain ⟨fuel, hf⟩ := h
  obtain ⟨asx, h1, h2, _⟩ := read_cells hb hJ m hp hf
  refine ⟨asx, h1, ?_⟩
  have := Rep.agg (c := c) (m := true) (cs := asx) cs.toList h2.1 fun j x v hx hv => (h2.2 j x v hx hv).up
  rwa [Array.toArray_toList] at this
end
theorem sh_int {P : Program} {m : Nat} {t : TypeId} {asx : List AV} (ht : P.underlying t = some (.int .i64)) (h : Sh P (m + 1) t asx) : ∃ n, asx = [.i .i64 n] := by
  simp only [Sh, ht] at h
  obtain ⟨n, h, _⟩ := h
  exact ⟨n, h⟩
theorem sh_bool {P : Program} {m : Nat} {t : TypeId} {asx : List AV} (ht : P.underlying t = some .bool) (h : Sh P (m + 1) t asx) : ∃ b, asx = [.b b] := by
  simp only [Sh, ht] at h; exact h
theorem sh_slice {P : Program} {m : Nat} {t e : TypeId} {asx : List AV} {α : Type} {f : α → List AV} (ht : P.underlying t = some (.slice e)) (he : ∀ r, Sh P m e r → ∃ p, r = f p) (h : Sh P (m + 1) t asx) : ∃ l : List α, asx = [.sl (l.flatMap f) l.length .non] ∧ l.length ≤ maxLen := by
  simp only [Sh, ht] at h
  obtain ⟨cs, n, rfl, hn, rows, hl, rfl, hS⟩ := h
  have key : ∀ rows : List (List AV), (∀ r ∈ rows, Sh P m e r) → ∃ l : List α, rows.flatten = l.flatMap f ∧ l.length = rows.length := by
    intro rows
    induction rows with
    | nil => intro _; exact ⟨[], rfl, rfl⟩
    | cons r rows ih =>
      intro h
      obtain ⟨p, rfl⟩ := he r (h r (List.mem_cons_self ..))
      obtain ⟨l, h1, h2⟩ := ih fun r hr => h r (List.mem_cons_of_mem _ hr)
      exact ⟨p :: l, by rw [List.flatten_cons, h1]; rfl, by simp [h2]⟩
  obtain ⟨l, h1, h2⟩ := key rows hS
  exact ⟨l, by rw [h1, ← hl, h2], by omega⟩
theorem sh_struct {P : Program} {m : Nat} {t : TypeId} {fs : Array Field} {asx : List AV} {ts : List TypeId} (ht : P.underlying t = some (.struct fs)) (hf : fs.toList.map (·.type) = ts) (h : Sh P (m + 1) t asx) : ShL (Sh P m) ts asx := by
  simp only [Sh, ht, hf] at h; exact h
theorem intsC_flat (l : List Int) : l.flatMap (fun v => [AV.i .i64 v]) = intsC l := by
  induction l with
  | nil => rfl
  | cons a l ih => rw [List.flatMap_cons, ih]; rfl
theorem coC_flat (l : List (List Int)) : l.flatMap (fun c => [AV.sl (intsC c) c.length .non]) = coC l := by
  induction l with
  | nil => rfl
  | cons a l ih => rw [List.flatMap_cons, ih]; rfl
section
variable {P : Program} {i b e g sE sI sC sP p : TypeId} {fe fg fp : Array Field}
theorem sh_intsG {m : Nat} (hi : P.underlying i = some (.int .i64)) (hI : P.underlying sI = some (.slice i)) {asx : List AV} (h : Sh P (m + 2) sI asx) : ∃ l : List Int, asx = [.sl (intsC l) l.length .non] ∧ l.length ≤ maxLen := by
  obtain ⟨l, h1, h2⟩ := sh_slice (f := fun v => [AV.i .i64 v]) hI (fun r hr => sh_int hi hr) h
  exact ⟨l, by rw [h1, intsC_flat], h2⟩
theorem sh_pairsG {m : Nat} (hi : P.underlying i = some (.int .i64)) (hp : P.underlying p = some (.struct fp)) (hfp : fp.toList.map (·.type) = [i, i]) (hP : P.underlying sP = some (.slice p)) {asx : List AV} (h : Sh P (m + 3) sP asx) : ∃ l : List (Int × Int), asx = [.sl (pairsC l) l.length .non] ∧ l.length ≤ maxLen := by
  obtain ⟨l, h1, h2⟩ := sh_slice (f := fun q : Int × Int => [AV.i .i64 q.1, .i .i64 q.2]) hP (fun r hr => by
    obtain ⟨a1, r1, rfl, s1, a2, r2, rfl, s2, rfl⟩ := sh_struct hp hfp hr
    obtain ⟨x, rfl⟩ := sh_int hi s1
    obtain ⟨y, rfl⟩ := sh_int hi s2
    exact ⟨(x, y), rfl⟩) h
  exact ⟨l, h1, h2⟩
theorem sh_evsG {m : Nat} (hi : P.underlying i = some (.int .i64)) (hb : P.underlying b = some .bool) (he : P.underlying e = some (.struct fe)) (hfe : fe.toList.map (·.type) = [i, i, i, i, i, b]) (hE : P.underlying sE = some (.slice e)) {asx : List AV} (h : Sh P (m + 3) sE asx) : ∃ l : List Ev, asx = [.sl (evsC l) l.length .non] ∧ l.length ≤ maxLen := by
  obtain ⟨l, h1, h2⟩ := sh_slice (f := evC) hE (fun r hr => by
    obtain ⟨a1, r1, rfl, s1, a2, r2, rfl, s2, a3, r3, rfl, s3, a4, r4, rfl, s4, a5, r5, rfl, s5, a6, r6, rfl, s6, rfl⟩ := sh_struct he hfe hr
    obtain ⟨x1, rfl⟩ := sh_int hi s1
    obtain ⟨x2, rfl⟩ := sh_int hi s2
    obtain ⟨x3, rfl⟩ := sh_int hi s3
    obtain ⟨x4, rfl⟩ := sh_int hi s4
    obtain ⟨x5, rfl⟩ := sh_int hi s5
    obtain ⟨x6, rfl⟩ := sh_bool hb s6
    exact ⟨⟨x1, x2, x3, x4, x5, x6⟩, rfl⟩) h
  exact ⟨l, h1, h2⟩
theorem sh_gr (hi : P.underlying i = some (.int .i64)) (hb : P.underlying b = some .bool) (he : P.underlying e = some (.struct fe)) (hfe : fe.toList.map (·.type) = [i, i, i, i, i, b]) (hE : P.underlying sE = some (.slice e)) (hI : P.underlying sI = some (.slice i)) (hC : P.underlying sC = some (.slice sI))
    (hp : P.underlying p = some (.struct fp)) (hfp : fp.toList.map (·.type) = [i, i]) (hP : P.underlying sP = some (.slice p)) (hg : P.underlying g = some (.struct fg)) (hfg : fg.toList.map (·.type) = [i, sE, sI, sC, sP, sP, sP, sP]) {asx : List AV} (h : Sh P 4 g asx) : ∃ X : Gr, asx = grC X := by
  obtain ⟨a1, r1, rfl, s1, a2, r2, rfl, s2, a3, r3, rfl, s3, a4, r4, rfl, s4, a5, r5, rfl, s5, a6, r6, rfl, s6, a7, r7, rfl, s7, a8, r8, rfl, s8, rfl⟩ := sh_struct hg hfg h
  obtain ⟨x1, rfl⟩ := sh_int hi s1
  obtain ⟨x2, rfl, _⟩ := sh_evsG (m := 0) hi hb he hfe hE s2
  obtain ⟨x3, rfl, _⟩ := sh_intsG (m := 1) hi hI s3
  obtain ⟨x4, rfl, _⟩ := sh_slice (f := fun c : List Int => [AV.sl (intsC c) c.length .non]) hC (fun r hr => by
    obtain ⟨l, h1, _⟩ := sh_intsG (m := 0) hi hI hr
    exact ⟨l, h1⟩) s4
  obtain ⟨x5, rfl, _⟩ := sh_pairsG (m := 0) hi hp hfp hP s5
  obtain ⟨x6, rfl, _⟩ := sh_pairsG (m := 0) hi hp hfp hP s6
  obtain ⟨x7, rfl, _⟩ := sh_pairsG (m := 0) hi hp hfp hP s7
  obtain ⟨x8, rfl, _⟩ := sh_pairsG (m := 0) hi hp hfp hP s8
  exact ⟨⟨x1, x2, x3, x4, x5, x6, x7, x8⟩, by rw [coC_flat]; rfl⟩
end
end Go.Ab
end
section
set_option linter.unusedVariables false
set_option linter.unusedSimpArgs false
namespace Go.Ab
variable {F : Funs}
theorem parts_ok (X : Gr) : WfQ (nOf X) (partsQ X) ∧ LeQ (q0Q X) (partsQ X) ∧ InP (q0Q X) (partsQ X) ∧ Clo (partsQ X) :=
  itQ_ok (nOf_le X) 6401 (q0Q X) (q0_wf X) (LeQ.refl _) (InP.base _) (by omega)
end Go.Ab
end
section
set_option linter.unusedVariables false
set_option linter.unusedSimpArgs false
set_option linter.unusedSectionVars false
namespace Go.Ab
variable {F : Funs}
theorem eq_own {X : Gr} (h : GraphOk X) {A : Mx} {R : Rw} (k : EqN X.evs.length A R) : EqN X.evs.length (opM (fun x y => x && y) A (miV X) X.evs.length) (ownR X R) := by
  have hi : Wf X.evs.length (partR inner X X.evs.length R) := wf_part h _ _ _
  have hs : EqN X.evs.length (kindK X pMi X.evs.length) (setR X pMi) := EqN.set h fun i hi => rfl
  unfold ownR
  rw [h.nOf]
  refine ⟨wf_then hs.1 hi, fun a b ha hb' => ?_⟩
  rw [opM_get _ _ _ _ _ _ ha hb', k.2 a b ha hb', Bool.eq_iff_iff, hb_then hs.1]
  have hp := fun x (hx : x < X.evs.length) => partR_get (so := inner) h.nOf k.1 rfl (a := x) (b := b) hx hb'
  have ta := th_ge h a ha
  constructor
  · intro hh
    rw [Bool.and_eq_true] at hh
    unfold miV thI at hh
    simp only [Bool.and_eq_true, decide_eq_true_eq, beq_iff_eq] at hh
    refine ⟨a, ?_, ?_⟩
    · rw [← hs.2 a a ha ha]
      unfold kindK pMi
      simp only [decide_true, Bool.true_and, decide_eq_true ha, bne_iff_ne, ne_eq]; omega
    · rw [hp a ha, hh.1, Bool.true_and]
      unfold inner
      simp only [beq_iff_eq]; exact hh.2.2
  · rintro ⟨c, h1, h2⟩
    have hc := (hs.1 a c h1).2
    rw [← hs.2 a c ha hc] at h1
    unfold kindK pMi at h1
    simp only [Bool.and_eq_true, decide_eq_true_eq, bne_iff_ne, ne_eq] at h1
    obtain ⟨rfl, _, h3⟩ := h1
    rw [hp a ha, Bool.and_eq_true] at h2
    unfold inner at h2
    rw [Bool.and_eq_true]
    refine ⟨h2.1, ?_⟩
    unfold miV thI
    unfold thI at ta
    simp only [Bool.and_eq_true, decide_eq_true_eq]
    refine ⟨?_, h2.2⟩
    by_cases hl : (a : Int) < X.locs
    · exact absurd (ta.1 hl) h3
    · have := ta.2 hl; omega
theorem eq_pan {X : Gr} (h : GraphOk X) {A : Mx} {R : Rw} (k : EqN X.evs.length A R) : EqN X.evs.length (mbM (plM X.evs.length A X.evs.length) X.evs.length) (panR X R) := by
  have e := (k.plus).maybe h.n40
  have hR : panR X R = maybeK X.evs.length (plusR X.evs.length R) := by
    unfold panR
    rw [h.nOf]
    have hn := h.n40
    refine rw_ext fun a b hb' => ?_
    rw [hb_or, hb_maybeK _ _ _ _ (by omega), hb_maybeK _ _ _ _ (by omega), hb_new hn]
    simp
  rw [hR]; exact e
theorem eq_bar {X : Gr} (h : GraphOk X) (m : Int) : EqN X.evs.length (kindK X (kindQ 3 m m) X.evs.length) (setR X (barP m)) := kq h fun e _ => q_m1 3 m e
structure Ref20F (F : Funs) : Prop where
  r : RefF F
  p19 : Pk_xref19 F
  p20 : Pk_xref20 F
  h36 : F 36 = some A_xref01_R_In
  h31 : F 31 = some A_xref01_R_Less
  h83 : F 83 = some A_xref09_Com
  hs : F 265 = some A_xref01_R_Self
  hlo : F 37 = some A_xref01_R_Loops
section
variable (T : Ref20F F) {X : Gr} (hX : FewG X) (h : GraphOk X)
include T hX h
theorem m20_mine (A : Mx) : pureS F 247 [.agg (grC X), .ptr (matC X.evs.length A)] = some (.ptr (matC X.evs.length (opM (fun x y => x && y) A (miV X) X.evs.length))) := sp_mine T.p19.xref19_Mine T.r.px.xref01_New h.n40 A
set_option maxRecDepth 100000 in
theorem m20_between (m : Int) : ∃ A, pureS F 460 [.agg (grC X), .i .i64 m] = some (.ptr (matC X.evs.length A)) ∧ EqN X.evs.length A (arndR X m) := by
  have ep := eq_own h (eq_po h)
  have e := ((((eq_M h).then ep).then (eq_bar h m)).then ep).then (eq_M h)
  have hR : arndR X m = thenR X.evs.length (thenR X.evs.length (thenR X.evs.length (thenR X.evs.length (setR X pM) (ownR X (poR X))) (setR X (barP m))) (ownR X (poR X))) (setR X pM) := by unfold arndR; rw [h.nOf]
  rw [hR]
  refine ⟨_, ?_, e⟩
  refine pure_of T.p20.xref20_between ?_
  have hm := mM19_sp T.r T.p19 h
  unfold mM19 at hm
  simp (disch := omega) only [A_xref20_between, wp, Nat.reduceAdd, Nat.reduceMul, Nat.reduceSub, gl, T.r.po h, m20_mine T hX h, hm, T.r.k h, T.r.then h]
set_option maxRecDepth 100000 in
theorem m20_sync : MIs F 455 X (psyR X) := by
  obtain ⟨A, hA, eA⟩ := m20_between T hX h 4
  refine ⟨A, ?_, eA⟩
  refine pure_of T.p20.xref20_Sync ?_
  simp (disch := omega) only [A_xref20_Sync, wp, Nat.reduceAdd, Nat.reduceMul, Nat.reduceSub, gl, hA]
omit T hX h in
theorem frz_tup2 (hp) (a b : List AV) : frz hp depth (.tup [.ptr a, .ptr b]) = some (.tup [.ptr a, .ptr b]) := by
  show frz hp (8 + 1) _ = _
  simp only [frz, frzL, Option.map_some]
set_option maxRecDepth 100000 in
theorem m20_sets : pureS F 461 [.agg (grC X)] = some (.tup [.ptr (matC X.evs.length (kindK X (kindQ 1 0 4) X.evs.length)), .ptr (matC X.evs.length (kindK X (kindQ 2 0 4) X.evs.length))]) := by
  refine pure_of T.p20.xref20_sets ?_
  simp (disch := omega) only [A_xref20_sets, wp, Nat.reduceAdd, Nat.reduceMul, Nat.reduceSub, gl, T.r.k h, res_2, frz_tup2]
omit T hX h in
theorem vx0 (a b : AV) : [a, b][0]? = some a := rfl
omit T hX h in
theorem vx1 (a b : AV) : [a, b][1]? = some b := rfl
theorem m20_less (A B : Mx) : pureS F 31 [.ptr (matC X.evs.length A), .ptr (matC X.evs.length B)] = some (.ptr (matC X.evs.length (opM (fun x y => x && !y) A B X.evs.length))) := by
  have := sp_mless T.h31 T.r.px.xref01_New h.n40 h.n40 A B
  rwa [Nat.max_self] at this
set_option maxRecDepth 100000 in
theorem m20_fences : MIs F 456 X (pfeR X) := by
  obtain ⟨A, hA, eA⟩ := m20_between T hX h 3
  obtain ⟨B, hB, eB⟩ := m20_sync T hX h
  have e := eB.or (eA.less (((eq_Wk h).then eA).then (eq_R h)))
  unfold MIs pfeR
  rw [h.nOf]
  refine ⟨_, ?_, e⟩
  refine pure_of T.p20.xref20_Fences ?_
  simp (disch := omega) only [A_xref20_Fences, wp, Nat.reduceAdd, Nat.reduceMul, Nat.reduceSub, gl, o_ext, vx0, vx1, hA, hB, m20_sets T hX h, T.r.then h, T.r.or h, m20_less T hX h]
set_option maxRecDepth 100000 in
theorem m20_ppo : MIs F 173 X (ppoR X) := by
  obtain ⟨A1, A2, A3, A4, q, b1, e1, e2, e3, e4, hc, hl, hi⟩ := sp_mparts T.h36 T.h31 T.r T.p19 hX h
  obtain ⟨w', l', i', c'⟩ := parts_ok X
  have eqq := clo_same hc hl hi c' l' i'
  have nq := h.nOf
  rw [nq] at w'
  have E1 : EqN X.evs.length A1 (partsQ X).ii := ⟨w'.ii, fun a b ha hb' => by rw [e1.2 a b ha hb', (eqq a b).1]⟩
  have E2 : EqN X.evs.length A2 (partsQ X).ic := ⟨w'.ic, fun a b ha hb' => by rw [e2.2 a b ha hb', (eqq a b).2.1]⟩
  have EP := (((eq_R h).then E1).then (eq_R h)).or (((eq_R h).then E2).then (eq_Wk h))
  unfold MIs ppoR
  rw [nq]
  refine ⟨_, ?_, EP⟩
  have s4 : ∀ a b c d w x y z : AV, splice [a, b, c, d] 0 [w, x, y, z] = [w, x, y, z] := fun _ _ _ _ _ _ _ _ => rfl
  have r4 : ∀ x : AV, List.replicate 4 x = [x, x, x, x] := fun _ => rfl
  refine pure_of T.p19.xref19_Ppo ?_
  simp (disch := omega) only [A_xref19_Ppo, wp, Nat.reduceAdd, Nat.reduceMul, Nat.reduceSub, gl, T.r.k h, T.r.then h, T.r.or h, b1, r4, s4]
set_option maxRecDepth 100000 in
theorem m20_hb : MIs F 457 X (phbR X) := by
  obtain ⟨A, hA, eA⟩ := m20_ppo T hX h
  obtain ⟨B, hB, eB⟩ := m20_fences T hX h
  have e := (eA.or eB).or (eq_outer h (eq_rf h))
  unfold MIs phbR
  rw [h.nOf]
  refine ⟨_, ?_, e⟩
  refine pure_of T.p20.xref20_Hb ?_
  simp (disch := omega) only [A_xref20_Hb, wp, Nat.reduceAdd, Nat.reduceMul, Nat.reduceSub, gl, hA, hB, T.r.rf h, T.r.outer h, T.r.or h]
theorem m20_com : pureS F 83 [.agg (grC X)] = some (.ptr (matC X.evs.length (comM X.evs.length (anyM (rfL X X.rf.length)) (anyM (coX X X.co.length))))) := sp_mCom T.h83 T.r.px.xref01_New T.r.px.xref01_R_Or h.n40 (T.r.rf h) (T.r.co hX h) (T.r.fr hX h)
theorem eq_com : EqN X.evs.length (comM X.evs.length (anyM (rfL X X.rf.length)) (anyM (coX X X.co.length))) (pcoR X) := ((eq_rf h).or (eq_co h)).or (eq_fr h)
set_option maxRecDepth 100000 in
theorem m20_prop : MIs F 458 X (pprR X) := by
  obtain ⟨A, hA, eA⟩ := m20_fences T hX h
  obtain ⟨B, hB, eB⟩ := m20_hb T hX h
  obtain ⟨C, hC, eC⟩ := m20_sync T hX h
  have eb := (eA.or ((eq_outer h (eq_rf h)).then eA)).then (eq_pan h eB)
  have hb0 : thenR X.evs.length (orR (pfeR X) (thenR X.evs.length (partR outer X X.evs.length (relE rfS X)) (pfeR X))) (panR X (phbR X)) = pbaR X := by unfold pbaR rfR; rw [h.nOf]
  rw [hb0] at eb
  have eb' := eb
  have e := (((eq_Wk h).then eb').then (eq_Wk h)).or ((((eq_pan h (eq_com T hX h)).then (eq_pan h eb')).then eC).then (eq_pan h eB))
  unfold MIs pprR
  rw [h.nOf]
  refine ⟨_, ?_, e⟩
  refine pure_of T.p20.xref20_Prop ?_
  simp (disch := omega) only [A_xref20_Prop, wp, Nat.reduceAdd, Nat.reduceMul, Nat.reduceSub, gl, o_ext, vx0, vx1, hA, hB, hC, m20_sets T hX h, m20_com T hX h, T.r.rf h, T.r.outer h, T.r.then h, T.r.or h, T.r.st h]
end
end Go.Ab
end
section
set_option linter.unusedVariables false
set_option linter.unusedSimpArgs false
namespace Go.Ab
inductive ET where
  | leaf
  | node (v : Option AV) (l r : ET)
noncomputable def ET.get (t : ET) : Nat → Option AV :=
  ET.rec (motive := fun _ => Nat → Option AV) (fun _ => none) (fun v _ _ gl gr n => Nat.rec (motive := fun _ => Option AV) v (fun m _ => Bool.rec (motive := fun _ => Option AV) (gr (Nat.div m 2)) (gl (Nat.div m 2)) (Nat.beq (Nat.mod m 2) 0)) n) t
theorem ET.get_succ (v l r) (m : Nat) : (ET.node v l r).get (m + 1) = if m % 2 = 0 then l.get (m / 2) else r.get (m / 2) := by
  show Bool.rec (motive := fun _ => Option AV) (r.get (m / 2)) (l.get (m / 2)) (Nat.beq (m % 2) 0) = _
  cases h : Nat.beq (m % 2) 0 with
  | true => rw [if_pos (Nat.eq_of_beq_eq_true h)]
  | false => rw [if_neg (Nat.ne_of_beq_eq_false h)]
section
variable {α : Type}
noncomputable def ET.putK (v : AV) (fuel : Nat) : ET → Nat → (ET → α) → α :=
  Nat.rec (motive := fun _ => ET → Nat → (ET → α) → α) (fun t _ k => k t)
    (fun _ ih t n k => ET.rec (motive := fun _ => α)
      (Nat.rec (motive := fun _ => α) (k (.node (some v) .leaf .leaf)) (fun m _ => Bool.rec (motive := fun _ => α) (ih .leaf (Nat.div m 2) fun r' => k (.node none .leaf r')) (ih .leaf (Nat.div m 2) fun l' => k (.node none l' .leaf)) (Nat.beq (Nat.mod m 2) 0)) n)
      (fun w l r _ _ => Nat.rec (motive := fun _ => α) (k (.node (some v) l r)) (fun m _ => Bool.rec (motive := fun _ => α) (ih r (Nat.div m 2) fun r' => k (.node w l r')) (ih l (Nat.div m 2) fun l' => k (.node w l' r)) (Nat.beq (Nat.mod m 2) 0)) n) t) fuel
theorem ET.putK_ok (v : AV) : ∀ (fuel : Nat) (t : ET) (n : Nat) (k : ET → α), n < fuel → ∃ t', ET.putK v fuel t n k = k t' ∧ ∀ j, t'.get j = if j = n then some v else t.get j
  | 0, _, _, _, h => absurd h (Nat.not_lt_zero _)
  | f + 1, t, 0, k, _ => by
    cases t with
    | leaf =>
      refine ⟨.node (some v) .leaf .leaf, rfl, fun j => ?_⟩
      cases j with
      | zero => rfl
      | succ j => rw [ET.get_succ, if_neg (Nat.succ_ne_zero j)]; split <;> rfl
    | node w l r =>
      refine ⟨.node (some v) l r, rfl, fun j => ?_⟩
      cases j with
      | zero => rfl
      | succ j => rw [ET.get_succ, if_neg (Nat.succ_ne_zero j), ET.get_succ]
  | f + 1, t, m + 1, k, h => by
    have hd : m / 2 < f := by omega
    cases t with
    | leaf =>
      cases hb : Nat.beq (m % 2) 0 with
      | true =>
        have hm := Nat.eq_of_beq_eq_true hb
        obtain ⟨t', h1, h2⟩ := ET.putK_ok v f .leaf (m / 2) (fun l' => k (.node none l' .leaf)) hd
        refine ⟨.node none t' .leaf, ?_, fun j => ?_⟩
        · show Bool.rec (motive := fun _ => α) _ (ET.putK v f .leaf (m / 2) fun l' => k (.node none l' .leaf)) (Nat.beq (m % 2) 0) = _
          rw [hb]; exact h1
        · cases j with
          | zero => rw [if_neg (by omega)]; rfl
          | succ j =>
            rw [ET.get_succ]
            by_cases hj : j % 2 = 0
            · rw [if_pos hj, h2]
              by_cases e : j / 2 = m / 2
              · rw [if_pos e, if_pos (by omega)]
              · rw [if_neg e, if_neg (by omega)]; rfl
            · rw [if_neg hj, if_neg (by omega)]; rfl
      | false =>
        have hm := Nat.ne_of_beq_eq_false hb
        obtain ⟨t', h1, h2⟩ := ET.putK_ok v f .leaf (m / 2) (fun r' => k (.node none .leaf r')) hd
        refine ⟨.node none .leaf t', ?_, fun j => ?_⟩
        · show Bool.rec (motive := fun _ => α) (ET.putK v f .leaf (m / 2) fun r' => k (.node none .leaf r')) _ (Nat.beq (m % 2) 0) = _
          rw [hb]; exact h1
        · cases j with
          | zero => rw [if_neg (by omega)]; rfl
          | succ j =>
            rw [ET.get_succ]
            by_cases hj : j % 2 = 0
            · rw [if_pos hj, if_neg (by omega)]; rfl
            · rw [if_neg hj, h2]
              by_cases e : j / 2 = m / 2
              · rw [if_pos e, if_pos (by omega)]
              · rw [if_neg e, if_neg (by omega)]; rfl
    | node w l r =>
      cases hb : Nat.beq (m % 2) 0 with
      | true =>
        have hm := Nat.eq_of_beq_eq_true hb
        obtain ⟨t', h1, h2⟩ := ET.putK_ok v f l (m / 2) (fun l' => k (.node w l' r)) hd
        refine ⟨.node w t' r, ?_, fun j => ?_⟩
        · show Bool.rec (motive := fun _ => α) _ (ET.putK v f l (m / 2) fun l' => k (.node w l' r)) (Nat.beq (m % 2) 0) = _
          rw [hb]; exact h1
        · cases j with
          | zero => rw [if_neg (by omega)]; rfl
          | succ j =>
            rw [ET.get_succ, ET.get_succ]
            by_cases hj : j % 2 = 0
            · rw [if_pos hj, if_pos hj, h2]
              by_cases e : j / 2 = m / 2
              · rw [if_pos e, if_pos (by omega)]
              · rw [if_neg e, if_neg (by omega)]
            · rw [if_neg hj, if_neg hj, if_neg (by omega)]
      | false =>
        have hm := Nat.ne_of_beq_eq_false hb
        obtain ⟨t', h1, h2⟩ := ET.putK_ok v f r (m / 2) (fun r' => k (.node w l r')) hd
        refine ⟨.node w l t', ?_, fun j => ?_⟩
        · show Bool.rec (motive := fun _ => α) (ET.putK v f r (m / 2) fun r' => k (.node w l r')) _ (Nat.beq (m % 2) 0) = _
          rw [hb]; exact h1
        · cases j with
          | zero => rw [if_neg (by omega)]; rfl
          | succ j =>
            rw [ET.get_succ, ET.get_succ]
            by_cases hj : j % 2 = 0
            · rw [if_pos hj, if_pos hj, if_neg (by omega)]
            · rw [if_neg hj, if_neg hj, h2]
              by_cases e : j / 2 = m / 2
              · rw [if_pos e, if_pos (by omega)]
              · rw [if_neg e, if_neg (by omega)]
noncomputable def frcN (n : Nat) (k : Nat → α) : α := Nat.rec (motive := fun _ => α) (k 0) (fun m _ => k (Nat.add m 1)) n
theorem frcN_ok (n : Nat) (k : Nat → α) : frcN n k = k n := by cases n <;> rfl
noncomputable def frcI (n : Int) (k : Int → α) : α := Int.rec (motive := fun _ => α) (fun m => frcN m fun m => k (.ofNat m)) (fun m => frcN m fun m => k (.negSucc m)) n
theorem frcI_ok (n : Int) (k : Int → α) : frcI n k = k n := by
  cases n with
  | ofNat m => exact frcN_ok m fun m => k (.ofNat m)
  | negSucc m => exact frcN_ok m fun m => k (.negSucc m)
noncomputable def frcB (x : Bool) (k : Bool → α) : α := Bool.rec (motive := fun _ => α) (k false) (k true) x
theorem frcB_ok (x : Bool) (k : Bool → α) : frcB x k = k x := by cases x <;> rfl
noncomputable def frc1 (v : AV) (k : AV → α) : α := match v with
  | .i s n => frcI n fun n => k (.i s n)
  | .b x => frcB x fun x => k (.b x)
  | v => k v
theorem frc1_ok (v : AV) (k : AV → α) : frc1 v k = k v := by
  cases v with
  | i s n => exact frcI_ok n fun n => k (.i s n)
  | b x => exact frcB_ok x fun x => k (.b x)
  | _ => rfl
noncomputable def frcL (cs : List AV) : (List AV → α) → α := List.rec (motive := fun _ => (List AV → α) → α) (fun k => k []) (fun c _ ih k => frc1 c fun c => ih fun cs => k (c :: cs)) cs
theorem frcL_ok : ∀ (cs : List AV) (k : List AV → α), frcL cs k = k cs
  | [], _ => rfl
  | c :: cs, k => by
    show frc1 c (fun c => frcL cs fun cs => k (c :: cs)) = _
    rw [frc1_ok, frcL_ok cs]
noncomputable def frcV (v : AV) (k : AV → α) : α := match v with
  | .i s n => frcI n fun n => k (.i s n)
  | .b x => frcB x fun x => k (.b x)
  | .sl cs n t => frcL cs fun cs => frcN n fun n => k (.sl cs n t)
  | .agg cs => frcL cs fun cs => k (.agg cs)
  | .ptr cs => frcL cs fun cs => k (.ptr cs)
  | .mp a o => frcN a fun a => frcN o fun o => k (.mp a o)
  | .ms a o n => frcN a fun a => frcN o fun o => frcN n fun n => k (.ms a o n)
  | v => k v
theorem frcV_ok (v : AV) (k : AV → α) : frcV v k = k v := by
  cases v with
  | i s n => exact frcI_ok n fun n => k (.i s n)
  | b x => exact frcB_ok x fun x => k (.b x)
  | sl cs n t =>
    show frcL cs (fun cs => frcN n fun n => k (.sl cs n t)) = _
    rw [frcL_ok, frcN_ok]
  | agg cs => exact frcL_ok cs fun cs => k (.agg cs)
  | ptr cs => exact frcL_ok cs fun cs => k (.ptr cs)
  | mp a o =>
    show frcN a (fun a => frcN o fun o => k (.mp a o)) = _
    rw [frcN_ok, frcN_ok]
  | ms a o n =>
    show frcN a (fun a => frcN o fun o => frcN n fun n => k (.ms a o n)) = _
    rw [frcN_ok, frcN_ok, frcN_ok]
  | _ => rfl
end
noncomputable def mapO (f : AV → Option AV) (cs : List AV) : Option (List AV) := List.rec (motive := fun _ => Option (List AV)) (some []) (fun c _ ih => match f c with
  | some c => (match ih with | some cs => some (c :: cs) | none => none)
  | none => none) cs
noncomputable def frzK (hp : Nat → Option Blk) (k : Nat) : AV → Option AV := Nat.rec (motive := fun _ => AV → Option AV) (fun _ => none) (fun _ ih v => match v with
  | .agg cs => (match mapO ih cs with | some cs => some (.agg cs) | none => none)
  | .tup cs => (match mapO ih cs with | some cs => some (.tup cs) | none => none)
  | .sl cs n _ => some (.sl cs n .non)
  | .mp id off => (match hp id with
    | some (.cells cs _) => (match mapO ih (cs.drop off) with | some cs => some (.ptr cs) | none => none)
    | _ => none)
  | .ms id off n => (match hp id with
    | some (.cells cs _) => (match mapO ih (cs.drop off) with | some cs => some (.sl cs n .non) | none => none)
    | _ => none)
  | .fn f a b => (match mapO ih a with
    | some a => (match mapO ih b with | some b => some (.fn f a b) | none => none)
    | none => none)
  | .ifc t v => (match ih v with | some v => some (.ifc t v) | none => none)
  | .mm _ => none
  | v => some v) k
noncomputable def frzLK (hp : Nat → Option Blk) (k : Nat) (cs : List AV) : Option (List AV) := mapO (frzK hp k) cs
theorem mapO_cons (f c cs) : mapO f (c :: cs) = (match f c with
  | some c => (match mapO f cs with | some cs => some (c :: cs) | none => none)
  | none => none) := rfl
theorem mapO_frz (hp : Nat → Option Blk) (k : Nat) (h : ∀ v, frzK hp k v = frz hp k v) : ∀ cs, mapO (frzK hp k) cs = frzL hp k cs
  | [] => by simp only [frzL]; rfl
  | c :: cs => by
    rw [mapO_cons, mapO_frz hp k h cs, h c]
    simp only [frzL]
    cases frz hp k c <;> cases frzL hp k cs <;> rfl
theorem frzK_ok (hp : Nat → Option Blk) : ∀ (k : Nat) (v : AV), frzK hp k v = frz hp k v
  | 0, v => by simp only [frz]; rfl
  | k + 1, v => by
    have hl := mapO_frz hp k (frzK_ok hp k)
    have e : frzK hp (k + 1) v = (match v with
      | .agg cs => (match mapO (frzK hp k) cs with | some cs => some (.agg cs) | none => none)
      | .tup cs => (match mapO (frzK hp k) cs with | some cs => some (.tup cs) | none => none)
      | .sl cs n _ => some (.sl cs n .non)
      | .mp id off => (match hp id with
        | some (.cells cs _) => (match mapO (frzK hp k) (cs.drop off) with | some cs => some (.ptr cs) | none => none)
        | _ => none)
      | .ms id off n => (match hp id with
        | some (.cells cs _) => (match mapO (frzK hp k) (cs.drop off) with | some cs => some (.sl cs n .non) | none => none)
        | _ => none)
      | .fn f a b => (match mapO (frzK hp k) a with
        | some a => (match mapO (frzK hp k) b with | some b => some (.fn f a b) | none => none)
        | none => none)
      | .ifc t v => (match frzK hp k v with | some v => some (.ifc t v) | none => none)
      | .mm _ => none
      | v => some v) := rfl
    rw [e]
    simp only [hl, frzK_ok hp k]
    cases v with
    | agg cs => simp only [frz]; cases frzL hp k cs <;> rfl
    | tup cs => simp only [frz]; cases frzL hp k cs <;> rfl
    | mp id off =>
      simp only [frz]
      cases hp id with
      | none => rfl
      | some b =>
        cases b with
        | cells cs ro => simp only; cases frzL hp k (cs.drop off) <;> rfl
        | _ => rfl
    | ms id off n =>
      simp only [frz]
      cases hp id with
      | none => rfl
      | some b =>
        cases b with
        | cells cs ro => simp only; cases frzL hp k (cs.drop off) <;> rfl
        | _ => rfl
    | fn f a b =>
      simp only [frz]
      cases frzL hp k a <;> cases frzL hp k b <;> rfl
    | ifc t v => simp only [frz]; cases frz hp k v <;> rfl
    | _ => simp only [frz]
theorem frzLK_ok (hp : Nat → Option Blk) (k : Nat) (cs : List AV) : frzLK hp k cs = frzL hp k cs := mapO_frz hp k (frzK_ok hp k) cs
noncomputable def kBoxI (v : AV) (g : G) : Option (AV × G) :=
  if (cellsOf v).all one then vMapL .ptr g (frzLK (fun _ => none) depth (cellsOf v)) else none
noncomputable def kBsl (id : Nat) (imm : Bool) (n : Nat) (cs : Option (List AV)) (g : G) : Option (AV × G) := match cs with
  | none => none
  | some cs =>
    if imm then vMapL (fun cs => .sl cs n .rig) g (frzLK (fun _ => none) depth cs)
    else some (.ms id 0 n, ⟨upd g.hp id (some (.cells cs false)), g.nx⟩)
noncomputable def kSrc (al : Nat → Bool) (esz : Nat) (y : AV) (g : G) : Option (List AV × Nat) := match y with
  | .sl ds m _ => some (ds, m)
  | .ms b off m => match rd g al b with
    | some (.cells ds _) => match frzLK (fun _ => none) depth ((ds.drop off).take (m * esz)) with
      | some ds => some (ds, m)
      | none => none
    | _ => none
  | _ => none
noncomputable def kApp (al : Nat → Bool) (id esz bytes : Nat) (x y : AV) (g : G) : Option (AV × G) := match x with
  | .sl cs n t => match kSrc al esz y g with
    | none => none
    | some (ds, m) =>
      if (n + m) * bytes ≤ 2 ^ 46 ∧ n + m ≤ 2 ^ 62 ∧ cs.length = n * esz ∧ ds.length = m * esz then
        match t with
        | .non => none
        | .rig => if m = 0 then some (.sl cs n .rig, g) else some (.sl (cs ++ ds) (n + m) (.own id esz), ⟨upd g.hp id (some (.tok true)), g.nx⟩)
        | .own tk e => match rd g al tk with
          | some (.tok true) => if e = esz then some (.sl (cs ++ ds) (n + m) (.own id esz), ⟨upd (upd g.hp tk (some (.tok false))) id (some (.tok true)), g.nx⟩) else none
          | _ => none
      else none
  | _ => none
theorem kSrc_ok (al esz y g) : kSrc al esz y g = vSrc al esz y g := by unfold kSrc vSrc; simp only [frzLK_ok]; rfl
theorem kApp_ok (al id esz bytes x y g) : kApp al id esz bytes x y g = vApp al id esz bytes x y g := by
  unfold kApp vApp
  simp only [kSrc_ok]
  rfl
theorem kBsl_ok (id imm n cs g) : kBsl id imm n cs g = vBsl id imm n cs g := by unfold kBsl vBsl; simp only [frzLK_ok]; first | done | rfl
theorem kBoxI_ok (v g) : kBoxI v g = vBoxI v g := by unfold kBoxI vBoxI; simp only [frzLK_ok]; first | done | rfl
noncomputable def kCall (call : CS) (al : Nat → Bool) (id : Nat) (m : Mode) (f : AV) (args : List AV) (g : G) : Option (AV × G) := match f with
  | .fn fid fst caps => match m with
    | .raw => call fid (fst ++ args ++ caps) g
    | .pure => match frzLK (rd g al) depth (fst ++ args ++ caps) with
      | none => none
      | some bs => match call fid bs ⟨fun _ => none, 0⟩ with
        | none => none
        | some (v, g') => match frzK g'.hp depth v with
          | none => none
          | some v => if flat v || ((fst ++ args ++ caps).flatMap (vis (rd g al) depth)).isEmpty then some (v, g) else none
    | .lock => match frzLK (rd g al) depth (fst ++ args ++ caps) with
      | none => none
      | some bs => match call fid bs ⟨fun _ => none, 0⟩ with
        | none => none
        | some (v, g') => match frzK g'.hp depth v with
          | none => none
          | some v => some (v, ⟨lock g.hp ((fst ++ args ++ caps).flatMap (vis (rd g al) depth)), g.nx⟩)
    | .thaw => match frzLK (rd g al) depth (fst ++ args ++ caps) with
      | none => none
      | some bs => match call fid bs ⟨fun _ => none, 0⟩ with
        | some (.mp b 0, g') => match g'.hp b with
          | some (.cells cs false) => match frzLK g'.hp depth cs with
            | some cs' =>
              if ((fst ++ args ++ caps).flatMap (vis (rd g al) depth)).isEmpty && !(cs.flatMap (vis g'.hp depth)).contains b then some (.mp id 0, ⟨upd g.hp id (some (.cells cs' false)), g.nx⟩) else none
            | none => none
          | _ => none
        | _ => none
  | _ => none
theorem kCall_ok (call al id m f args g) : kCall call al id m f args g = vCall call al id m f args g := by
  unfold kCall vCall
  simp only [frzLK_ok, frzK_ok]
  rfl
abbrev Orc := Nat → List AV → Option AV
noncomputable def kev (b : Env) (t : ET) : Env := fun n => match t.get n with | some v => v | none => b n
noncomputable def putO {α : Type} (d : Option Nat) (v : AV) (t : ET) (k : ET → α) : α := match d with
  | some d => ET.putK v (d + 1) t d k
  | none => k t
theorem putO_ok {α : Type} (b : Env) (d : Option Nat) (v : AV) (t : ET) (k : ET → α) : ∃ t', putO d v t k = k t' ∧ kev b t' = put (kev b t) d v := by
  cases d with
  | none => exact ⟨t, rfl, rfl⟩
  | some d =>
    obtain ⟨t', h1, h2⟩ := ET.putK_ok v (d + 1) t d k (by omega)
    refine ⟨t', h1, ?_⟩
    funext j
    simp only [kev, put, upd, h2]
    by_cases e : j = d
    · simp only [if_pos e]
    · simp only [if_neg e]
noncomputable def ltI (a b : Int) : Bool := Int.rec (motive := fun _ => Bool) (fun m => Int.rec (motive := fun _ => Bool) (fun n => Nat.ble (Nat.add m 1) n) (fun _ => false) b) (fun m => Int.rec (motive := fun _ => Bool) (fun _ => true) (fun n => Nat.ble (Nat.add n 1) m) b) a
theorem ble_dec (m n : Nat) : Nat.ble m n = decide (m ≤ n) := by
  cases h : Nat.ble m n with
  | true => exact (decide_eq_true (Nat.le_of_ble_eq_true h)).symm
  | false => exact (decide_eq_false (fun hh => by rw [Nat.ble_eq_true_of_le hh] at h; cases h)).symm
theorem ltI_ok (a b : Int) : ltI a b = decide (a < b) := by
  cases a with
  | ofNat m =>
    cases b with
    | ofNat n =>
      show Nat.ble (m + 1) n = _
      rw [ble_dec, decide_eq_decide]
      show m + 1 ≤ n ↔ (m : Int) < (n : Int)
      omega
    | negSucc n =>
      show false = _
      refine (decide_eq_false ?_).symm
      show ¬ (m : Int) < Int.negSucc n
      omega
  | negSucc m =>
    cases b with
    | ofNat n =>
      show true = _
      refine (decide_eq_true ?_).symm
      show Int.negSucc m < (n : Int)
      omega
    | negSucc n =>
      show Nat.ble (n + 1) m = _
      rw [ble_dec, decide_eq_decide]
      omega
noncomputable def eqI (a b : Int) : Bool := Int.rec (motive := fun _ => Bool) (fun m => Int.rec (motive := fun _ => Bool) (fun n => Nat.beq m n) (fun _ => false) b) (fun m => Int.rec (motive := fun _ => Bool) (fun _ => false) (fun n => Nat.beq m n) b) a
theorem beq_dec (m n : Nat) : Nat.beq m n = decide (m = n) := by
  cases h : Nat.beq m n with
  | true => exact (decide_eq_true (Nat.eq_of_beq_eq_true h)).symm
  | false => exact (decide_eq_false (Nat.ne_of_beq_eq_false h)).symm
theorem eqI_ok (a b : Int) : eqI a b = (a == b) := by
  have e : (a == b) = decide (a = b) := by rw [Bool.eq_iff_iff]; simp
  rw [e]
  cases a with
  | ofNat m =>
    cases b with
    | ofNat n =>
      show Nat.beq m n = _
      rw [beq_dec, decide_eq_decide]
      show m = n ↔ (m : Int) = (n : Int)
      omega
    | negSucc n => exact (decide_eq_false (fun h => by cases h)).symm
  | negSucc m =>
    cases b with
    | ofNat n => exact (decide_eq_false (fun h => by cases h)).symm
    | negSucc n =>
      show Nat.beq m n = _
      rw [beq_dec, decide_eq_decide]
      omega
noncomputable def wrI (n : Int) : Int := Int.rec (motive := fun _ => Int) (fun m => Bool.rec (motive := fun _ => Int) (IntKind.i64.wrap (.ofNat m)) (.ofNat m) (Nat.ble m 9223372036854775807)) (fun m => Bool.rec (motive := fun _ => Int) (IntKind.i64.wrap (.negSucc m)) (.negSucc m) (Nat.ble m 9223372036854775807)) n
theorem wrI_in {x : Int} (h : -9223372036854775808 ≤ x) (h2 : x ≤ 9223372036854775807) : IntKind.i64.wrap x = x := by
  simp [IntKind.wrap, IntKind.bits, IntKind.signed]
  omega
theorem wrI_ok (n : Int) : wrI n = IntKind.i64.wrap n := by
  cases n with
  | ofNat m =>
    show Bool.rec (motive := fun _ => Int) (IntKind.i64.wrap (.ofNat m)) (.ofNat m) (Nat.ble m 9223372036854775807) = _
    rw [ble_dec]
    by_cases h : m ≤ 9223372036854775807
    · rw [decide_eq_true h]
      exact (wrI_in (x := (m : Int)) (by omega) (by omega)).symm
    · rw [decide_eq_false h]
  | negSucc m =>
    show Bool.rec (motive := fun _ => Int) (IntKind.i64.wrap (.negSucc m)) (.negSucc m) (Nat.ble m 9223372036854775807) = _
    rw [ble_dec]
    by_cases h : m ≤ 9223372036854775807
    · rw [decide_eq_true h]
      exact (wrI_in (x := Int.negSucc m) (by omega) (by omega)).symm
    · rw [decide_eq_false h]
noncomputable def addI (a b : Int) : Int := Int.rec (motive := fun _ => Int) (fun m => Int.rec (motive := fun _ => Int) (fun n => .ofNat (Nat.add m n)) (fun n => Int.add (.ofNat m) (.negSucc n)) b) (fun m => Int.add (.negSucc m) b) a
theorem addI_ok (a b : Int) : addI a b = a + b := by cases a <;> cases b <;> rfl
noncomputable def kII (op : BinOp) : Int → Int → Option AV := BinOp.casesOn (motive := fun _ => Int → Int → Option AV) op
  (fun a b => some (.i .i64 (wrI (addI a b)))) (fun a b => some (.i .i64 (wrI (Int.sub a b)))) (ibin .mul .i64) (ibin .quo .i64) (ibin .rem .i64) (ibin .and .i64) (ibin .or .i64) (ibin .xor .i64)
  (ishift .shl .i64) (ishift .shr .i64) (ibin .andNot .i64) (fun a b => some (.b (eqI a b))) (fun a b => some (.b (!eqI a b))) (fun a b => some (.b (ltI a b))) (fun a b => some (.b (!ltI b a))) (fun a b => some (.b (ltI b a))) (fun a b => some (.b (!ltI a b)))
theorem kII_ok (op : BinOp) (a b : Int) : kII op a b = abin op (.i .i64 a) (.i .i64 b) := by
  cases op
  · show some (AV.i .i64 (wrI (addI a b))) = _
    rw [wrI_ok, addI_ok]; simp [abin, ibin]
  · show some (AV.i .i64 (wrI (a - b))) = _
    rw [wrI_ok]; simp [abin, ibin]
  · show ibin .mul .i64 a b = _; simp [abin]
  · show ibin .quo .i64 a b = _; simp [abin]
  · show ibin .rem .i64 a b = _; simp [abin]
  · show ibin .and .i64 a b = _; simp [abin]
  · show ibin .or .i64 a b = _; simp [abin]
  · show ibin .xor .i64 a b = _; simp [abin]
  · show ishift .shl .i64 a b = _; simp [abin]
  · show ishift .shr .i64 a b = _; simp [abin]
  · show ibin .andNot .i64 a b = _; simp [abin]
  · show some (AV.b (eqI a b)) = _
    rw [eqI_ok]; simp [abin, ibin]
  · show some (AV.b (!eqI a b)) = _
    rw [eqI_ok]; simp only [abin, ibin, if_true]; rfl
  · show some (AV.b (ltI a b)) = _
    rw [ltI_ok]; simp [abin, ibin]
  · show some (AV.b (!ltI b a)) = _
    rw [ltI_ok]; simp [abin, ibin]
    rw [← decide_not, decide_eq_decide]; omega
  · show some (AV.b (ltI b a)) = _
    rw [ltI_ok]; simp [abin, ibin]
  · show some (AV.b (!ltI a b)) = _
    rw [ltI_ok]; simp [abin, ibin]
    rw [← decide_not, decide_eq_decide]; omega
noncomputable def kBin (op : BinOp) (x y : AV) : Option AV := match x with
  | .i k a => (match k with
    | .i64 => (match y with
      | .i k' b => (match k' with
        | .i64 => kII op a b
        | k' => abin op (.i .i64 a) (.i k' b))
      | y => abin op (.i .i64 a) y)
    | k => abin op (.i k a) y)
  | x => abin op x y
theorem kBin_ok (op : BinOp) (x y : AV) : kBin op x y = abin op x y := by
  cases x with
  | i k a =>
    cases k <;> first
      | rfl
      | (cases y with
        | i k' b => cases k' <;> first | rfl | exact kII_ok op a b
        | _ => rfl)
  | _ => rfl
noncomputable def frcR (r : Option (AV × G)) : Option (AV × G) := match r with
  | some (v, g) => frcV v fun v => some (v, g)
  | none => none
theorem frcR_ok (r : Option (AV × G)) : frcR r = r := by
  cases r with
  | none => rfl
  | some p =>
    obtain ⟨v, g⟩ := p
    show frcV v (fun v => some (v, g)) = _
    rw [frcV_ok]
abbrev KO := Orc → CS → (Nat → Bool) → Nat → Nat → Env → G → Option (AV × G)
noncomputable def ko_mv (x : Opd) : KO := fun _ _ _ _ _ e g => some (x.ev e, g)
noncomputable def ko_pick (c a b : Opd) : KO := fun _ _ _ _ _ e g => vPick (c.ev e) (a.ev e) (b.ev e) g
noncomputable def ko_new (zero : List AV) : KO := fun _ _ _ _ id _ g => some (.mp id 0, ⟨upd g.hp id (some (.cells zero false)), g.nx⟩)
noncomputable def ko_box (x : Opd) : KO := fun _ _ _ _ id e g => vBox id (x.ev e) g
noncomputable def ko_boxI (x : Opd) : KO := fun _ _ _ _ _ e g => kBoxI (x.ev e) g
noncomputable def ko_build (zero : List AV) (parts : List (Nat × Nat × Opd)) : KO := fun _ _ _ _ _ e g => frcR (vMapL .agg g (fill e zero parts))
noncomputable def ko_bsl (imm : Bool) (n : Nat) (zero : List AV) (parts : List (Nat × Nat × Opd)) : KO := fun _ _ _ _ id e g => frcR (kBsl id imm n (fill e zero parts) g)
noncomputable def ko_ld (agg : Option Nat) (x : Opd) : KO := fun _ _ al _ _ e g => vLd al agg (x.ev e) g
noncomputable def ko_st (n : Nat) (a x : Opd) : KO := fun _ _ al _ _ e g => vSt al n (a.ev e) (x.ev e) g
noncomputable def ko_stL (n : Nat) (a x : Opd) : KO := fun _ _ al lo _ e g => vSt (fun i => decide (lo ≤ i) && al i) n (a.ev e) (x.ev e) g
noncomputable def ko_ldF (agg : Option Nat) (x : Opd) : KO := fun _ _ al _ _ e g => vLdF al agg (x.ev e) g
noncomputable def ko_stW (n : Nat) (a x : Opd) : KO := fun _ _ al _ _ e g => vSt al n (a.ev e) (x.ev e) g
noncomputable def ko_ldQ (agg : Option Nat) (x : Opd) (t : Nat) : KO := fun _ _ al _ _ e g => vLdQ al agg (x.ev e) (e t) g
noncomputable def ko_stN (n : Nat) (a x : Opd) (ts : List Nat) : KO := fun _ _ al _ _ e g => vStN al n (a.ev e) (x.ev e) (ts.map e) g
noncomputable def ko_nilck (x : Opd) : KO := fun _ _ _ _ _ e g => vNil (x.ev e) g
noncomputable def ko_bin (op : BinOp) (x y : Opd) : KO := fun _ _ _ _ _ e g => frcR (vMap g (kBin op (x.ev e) (y.ev e)))
noncomputable def ko_eqb (neg : Bool) (x y : Opd) : KO := fun _ _ _ _ _ e g => frcR (vMap g (negb neg (aeqb (x.ev e) (y.ev e))))
noncomputable def ko_eqn (neg : Bool) (x y : Opd) : KO := fun _ _ _ _ _ e g => frcR (vMap g (negb neg (aeqn (x.ev e) (y.ev e))))
noncomputable def ko_eqa (neg : Bool) (ks : List Nat) (x y : Opd) : KO := fun _ _ _ _ _ e g => frcR (vMap g (negb neg (aeqa ks (x.ev e) (y.ev e))))
noncomputable def ko_un (op : UnOp) (x : Opd) : KO := fun _ _ _ _ _ e g => frcR (vMap g (aun op (x.ev e)))
noncomputable def ko_conv (k : IntKind) (x : Opd) : KO := fun _ _ _ _ _ e g => frcR (vConv k (x.ev e) g)
noncomputable def ko_mkfn (f : Nat) (fst caps : List Opd) : KO := fun _ _ _ _ _ e g => some (.fn f (fst.map (·.ev e)) (caps.map (·.ev e)), g)
noncomputable def ko_mkmap : KO := fun _ _ _ _ id _ g => some (.mm id, ⟨upd g.hp id (some (.map [])), g.nx⟩)
noncomputable def ko_mput (m k v : Opd) : KO := fun _ _ al _ _ e g => vMput al (m.ev e) (k.ev e) (v.ev e) g
noncomputable def ko_mget (m k : Opd) : KO := fun _ _ al _ _ e g => vMget al (m.ev e) (k.ev e) g
noncomputable def ko_mksl (zero : List AV) (esz bytes : Nat) (len cap : Opd) : KO := fun _ _ _ _ id e g => frcR (vMksl id zero esz bytes (len.ev e) (cap.ev e) g)
noncomputable def ko_slice (esz : Nat) (x : Opd) (lo hi mx : Option Opd) : KO := fun _ _ _ _ _ e g => frcR (vSlice esz (x.ev e) (evo e lo) (evo e hi) (evo e mx) g)
noncomputable def ko_fa (off : Nat) (x : Opd) : KO := fun _ _ _ _ _ e g => vFa off (x.ev e) g
noncomputable def ko_fld (off : Nat) (agg : Option Nat) (x : Opd) : KO := fun _ _ _ _ _ e g => vFld off agg (x.ev e) g
noncomputable def ko_ia (esz : Nat) (x i : Opd) : KO := fun _ _ _ _ _ e g => vIa esz (x.ev e) (i.ev e) g
noncomputable def ko_iaa (len esz : Nat) (x i : Opd) : KO := fun _ _ _ _ _ e g => vIaa len esz (x.ev e) (i.ev e) g
noncomputable def ko_idx (len esz : Nat) (agg : Option Nat) (x i : Opd) : KO := fun _ _ _ _ _ e g => vIdx len esz agg (x.ev e) (i.ev e) g
noncomputable def ko_sidx (x i : Opd) : KO := fun _ _ _ _ _ e g => frcR (vSidx (x.ev e) (i.ev e) g)
noncomputable def ko_ext (i : Nat) (x : Opd) : KO := fun _ _ _ _ _ e g => vExt i (x.ev e) g
noncomputable def ko_len (x : Opd) : KO := fun _ _ _ _ _ e g => vLen (x.ev e) g
noncomputable def ko_slen (x : Opd) : KO := fun _ _ _ _ _ e g => frcR (vSlen (x.ev e) g)
noncomputable def ko_sslice (x : Opd) (lo hi : Option Opd) : KO := fun _ _ _ _ _ e g => frcR (vSslice (x.ev e) (evo e lo) (evo e hi) g)
noncomputable def ko_mx (x y : Opd) : KO := fun _ _ _ _ _ e g => frcR (vMx (x.ev e) (y.ev e) g)
noncomputable def ko_mn (x y : Opd) : KO := fun _ _ _ _ _ e g => frcR (vMn (x.ev e) (y.ev e) g)
noncomputable def ko_app (esz bytes : Nat) (x y : Opd) : KO := fun _ _ al _ id e g => frcR (kApp al id esz bytes (x.ev e) (y.ev e) g)
noncomputable def ko_appM (esz bytes : Nat) (x y : Opd) : KO := fun _ _ al _ id e g => frcR (vAppM al id esz bytes (x.ev e) (y.ev e) g)
noncomputable def ko_cutM (esz : Nat) (x hi : Opd) : KO := fun _ _ al _ id e g => frcR (vCutM al id esz (x.ev e) (hi.ev e) g)
noncomputable def ko_bad : KO := fun _ _ _ _ _ _ _ => none
noncomputable def ko_pure (f : Opd) (args : List Opd) : KO := fun orc call al _ id e g => match f.ev e with
  | .fn fid fst caps => (match frzLK (rd g al) depth (fst ++ args.map (·.ev e) ++ caps) with
    | some bs => (match orc fid bs with
      | some v => frcV v fun v => if flat v || ((fst ++ args.map (·.ev e) ++ caps).flatMap (vis (rd g al) depth)).isEmpty then some (v, g) else none
      | none => frcR (kCall call al id .pure (f.ev e) (args.map (·.ev e)) g))
    | none => none)
  | _ => none
noncomputable def ko_call (m : Mode) (f : Opd) (args : List Opd) : KO := Mode.casesOn (motive := fun _ => KO) m (ko_pure f args)
  (fun _ call al _ id e g => frcR (kCall call al id .lock (f.ev e) (args.map (·.ev e)) g))
  (fun _ call al _ id e g => frcR (kCall call al id .thaw (f.ev e) (args.map (·.ev e)) g))
  (fun _ call al _ id e g => frcR (kCall call al id .raw (f.ev e) (args.map (·.ev e)) g))
section
variable (orc : Orc)
noncomputable def opK (call : CS) (al : Nat → Bool) (lo id : Nat) (op : AOp) (e : Env) (g : G) : Option (AV × G) :=
  AOp.casesOn (motive := fun _ => KO) op ko_mv ko_pick ko_new ko_box ko_boxI ko_build ko_bsl ko_ld ko_ldF ko_ldQ ko_st ko_stL ko_stW ko_stN ko_nilck ko_bin ko_eqb ko_eqn ko_eqa ko_un ko_conv ko_mkfn ko_mkmap ko_mput ko_mget ko_mksl ko_slice ko_fa ko_fld ko_ia ko_iaa ko_idx ko_sidx ko_ext ko_len ko_slen ko_sslice ko_mx ko_mn ko_app ko_appM ko_cutM ko_bad ko_call orc call al lo id e g
noncomputable def regK (call : CS) (b : Env) (draw : Bool) (base : Nat) (ops : List AOper) : Nat → ET → G → Option (ET × G) :=
  List.rec (motive := fun _ => Nat → ET → G → Option (ET × G)) (fun _ t g => some (t, g)) (fun o _ ih j t g =>
    match wanted (kev b t) o.grd with
    | true => match opK orc call (allow draw base o.pre) base (base + j) o.op (kev b t) g with
      | some (v, g) => putO o.dst v t fun t => ih (j + 1) t g
      | none => none
    | false => putO o.dst .undef t fun t => ih (j + 1) t g) ops
noncomputable def iterK (f : ET → G → Option (Out × ET × G)) (k : Nat) : ET → G → Option (Out × ET × G) :=
  Nat.rec (motive := fun _ => ET → G → Option (Out × ET × G)) (fun _ _ => none) (fun _ ih t g => match f t g with
    | some (.nrm, t, g) => ih t g
    | r => r) k
noncomputable def codeK (call : CS) (b : Env) (k : Nat) (c : ACode) : ET → G → Option (Out × ET × G) :=
  ACode.rec (motive := fun _ => ET → G → Option (Out × ET × G))
    (fun t g => some (.nrm, t, g))
    (fun draw ops t g => frcN g.nx fun base => frcN (base + ops.length) fun nx => match regK orc call b draw base ops 0 t ⟨g.hp, nx⟩ with
      | some (t, g) => some (.nrm, t, g)
      | none => none)
    (fun _ _ fa fb t g => match fa t g with
      | some (.nrm, t, g) => fb t g
      | r => r)
    (fun c _ _ ft ff t g => match c.ev (kev b t) with
      | .b x => Bool.rec (motive := fun _ => Option (Out × ET × G)) (ff t g) (ft t g) x
      | _ => none)
    (fun id _ fc t g => match fc t g with
      | some (.ext n, t, g) => some (Bool.rec (motive := fun _ => Out) (.ext n) .nrm (Nat.beq n id), t, g)
      | r => r)
    (fun n _ fc t g => fc t ⟨lock g.hp (vis g.hp depth (kev b t n)), g.nx⟩)
    (fun n _ fc t g => fc t ⟨lock g.hp (ids1 (kev b t n)), g.nx⟩)
    (fun n _ fc t g => match frzK g.hp depth (kev b t n) with
      | some v => ET.putK v (n + 1) t n fun t' => fc t' ⟨lock g.hp (vis g.hp depth (kev b t n)), g.nx⟩
      | none => none)
    (fun _ fc t g => fc t g)
    (fun t g => some (.nrm, t, g))
    (fun _ fc t g => iterK fc k t g)
    (fun id t g => some (.ext id, t, g))
    (fun t g => some (.ret, t, g)) c
variable (F : Funs)
noncomputable def callK (k : Nat) : CS :=
  Nat.rec (motive := fun _ => CS) (fun _ _ _ => none) (fun k ih f args g => match F f with
    | none => none
    | some fn => match codeK orc ih (argEnv args) k fn.body .leaf g with
      | some (.nrm, t, g) => (resE fn.res (kev (argEnv args) t) g).map (·, g)
      | some (.ret, t, g) => (resE fn.res (kev (argEnv args) t) g).map (·, g)
      | _ => none) k
end
def OrcOk (F : Funs) (orc : Orc) : Prop := ∀ f bs v, orc f bs = some v → pureS F f bs = some v
section
variable {F : Funs} {orc : Orc} (ho : OrcOk F orc)
include ho
theorem opK_ok {call : CS} (hc : CLe call (callS F)) {al lo id op e g r} (h : opK orc call al lo id op e g = some r) : opE (callS F) al lo id op e g = some r := by
  cases op with
  | boxI x =>
    have h : kBoxI (x.ev e) g = some r := h
    rw [kBoxI_ok] at h; exact h
  | build z ps =>
    have h : frcR (vMapL .agg g (fill e z ps)) = some r := h
    rw [frcR_ok] at h; exact h
  | bsl imm n z ps =>
    have h : frcR (kBsl id imm n (fill e z ps) g) = some r := h
    rw [frcR_ok, kBsl_ok] at h; exact h
  | bin o x y =>
    have h : frcR (vMap g (kBin o (x.ev e) (y.ev e))) = some r := h
    rw [frcR_ok, kBin_ok] at h; exact h
  | eqb neg x y =>
    have h : frcR (vMap g (negb neg (aeqb (x.ev e) (y.ev e)))) = some r := h
    rw [frcR_ok] at h; exact h
  | eqn neg x y =>
    have h : frcR (vMap g (negb neg (aeqn (x.ev e) (y.ev e)))) = some r := h
    rw [frcR_ok] at h; exact h
  | eqa neg ks x y =>
    have h : frcR (vMap g (negb neg (aeqa ks (x.ev e) (y.ev e)))) = some r := h
    rw [frcR_ok] at h; exact h
  | un o x =>
    have h : frcR (vMap g (aun o (x.ev e))) = some r := h
    rw [frcR_ok] at h; exact h
  | conv k x =>
    have h : frcR (vConv k (x.ev e) g) = some r := h
    rw [frcR_ok] at h; exact h
  | mksl z esz bytes len cap =>
    have h : frcR (vMksl id z esz bytes (len.ev e) (cap.ev e) g) = some r := h
    rw [frcR_ok] at h; exact h
  | slice esz x lo' hi mx =>
    have h : frcR (vSlice esz (x.ev e) (evo e lo') (evo e hi) (evo e mx) g) = some r := h
    rw [frcR_ok] at h; exact h
  | sidx x i =>
    have h : frcR (vSidx (x.ev e) (i.ev e) g) = some r := h
    rw [frcR_ok] at h; exact h
  | slen x =>
    have h : frcR (vSlen (x.ev e) g) = some r := h
    rw [frcR_ok] at h; exact h
  | sslice x lo' hi =>
    have h : frcR (vSslice (x.ev e) (evo e lo') (evo e hi) g) = some r := h
    rw [frcR_ok] at h; exact h
  | mx x y =>
    have h : frcR (vMx (x.ev e) (y.ev e) g) = some r := h
    rw [frcR_ok] at h; exact h
  | mn x y =>
    have h : frcR (vMn (x.ev e) (y.ev e) g) = some r := h
    rw [frcR_ok] at h; exact h
  | app esz bytes x y =>
    have h : frcR (kApp al id esz bytes (x.ev e) (y.ev e) g) = some r := h
    rw [frcR_ok, kApp_ok] at h; exact h
  | appM esz bytes x y =>
    have h : frcR (vAppM al id esz bytes (x.ev e) (y.ev e) g) = some r := h
    rw [frcR_ok] at h; exact h
  | cutM esz x hi =>
    have h : frcR (vCutM al id esz (x.ev e) (hi.ev e) g) = some r := h
    rw [frcR_ok] at h; exact h
  | bad => cases h
  | call m f args =>
    cases m with
    | raw =>
      have h : frcR (kCall call al id .raw (f.ev e) (args.map (·.ev e)) g) = some r := h
      rw [frcR_ok, kCall_ok] at h
      exact opE_mono (op := .call .raw f args) hc h
    | lock =>
      have h : frcR (kCall call al id .lock (f.ev e) (args.map (·.ev e)) g) = some r := h
      rw [frcR_ok, kCall_ok] at h
      exact opE_mono (op := .call .lock f args) hc h
    | thaw =>
      have h : frcR (kCall call al id .thaw (f.ev e) (args.map (·.ev e)) g) = some r := h
      rw [frcR_ok, kCall_ok] at h
      exact opE_mono (op := .call .thaw f args) hc h
    | pure =>
      have h : ko_pure f args orc call al lo id e g = some r := h
      unfold ko_pure at h
      split at h
      · rename_i fid fst caps hf
        split at h
        · rename_i bs hb
          split at h
          · rename_i v hv
            rw [frcV_ok] at h
            split at h
            · rename_i hfl
              cases h
              show vPure F al (f.ev e) (args.map (·.ev e)) g = _
              rw [hf]
              rw [frzLK_ok] at hb
              exact vPure_ok hb (ho _ _ _ hv) hfl
            · cases h
          · rw [frcR_ok, kCall_ok] at h
            exact opE_mono (op := .call .pure f args) hc h
        · cases h
      · cases h
  | _ => exact h
theorem regK_ok {call : CS} (hc : CLe call (callS F)) {b : Env} {draw : Bool} {base : Nat} : ∀ {ops : List AOper} {j : Nat} {t : ET} {g : G} {t' g'}, regK orc call b draw base ops j t g = some (t', g') → regE (callS F) draw base j ops (kev b t) g = some (kev b t', g')
  | [], j, t, g, t', g', h => by cases h; rfl
  | o :: os, j, t, g, t', g', h => by
    have h : (match wanted (kev b t) o.grd with
      | true => match opK orc call (allow draw base o.pre) base (base + j) o.op (kev b t) g with
        | some (v, g) => putO o.dst v t fun t => regK orc call b draw base os (j + 1) t g
        | none => none
      | false => putO o.dst .undef t fun t => regK orc call b draw base os (j + 1) t g) = some (t', g') := h
    simp only [regE]
    cases hw : wanted (kev b t) o.grd with
    | true =>
      rw [hw] at h
      simp only [if_true]
      cases hop : opK orc call (allow draw base o.pre) base (base + j) o.op (kev b t) g with
      | none => rw [hop] at h; cases h
      | some r =>
        obtain ⟨v, g1⟩ := r
        rw [hop] at h
        simp only at h
        rw [opK_ok ho hc hop]
        obtain ⟨t1, e1, e2⟩ := putO_ok b o.dst v t fun t => regK orc call b draw base os (j + 1) t g1
        rw [e1] at h
        simp only
        rw [← e2]
        exact regK_ok hc h
    | false =>
      rw [hw] at h
      simp only [Bool.false_eq_true, if_false]
      obtain ⟨t1, e1, e2⟩ := putO_ok b o.dst .undef t fun t => regK orc call b draw base os (j + 1) t g
      simp only [e1] at h
      rw [← e2]
      exact regK_ok hc h
theorem codeK_ok {call : CS} (hc : CLe call (callS F)) {b : Env} {k : Nat} : ∀ {c : ACode} {t : ET} {g : G} {o t' g'}, codeK orc call b k c t g = some (o, t', g') → codeS F c (kev b t) g = some (o, kev b t', g') := by
  intro c
  induction c with
  | skip => intro t g o t' g' h; cases h; exact codeS_skip F _ _
  | lab => intro t g o t' g' h; cases h; exact codeS_lab F _ _
  | ext id => intro t g o t' g' h; cases h; exact codeS_ext F _ _ _
  | ret => intro t g o t' g' h; cases h; exact codeS_ret F _ _
  | scp c ih => intro t g o t' g' h; rw [codeS_scp]; exact ih h
  | lck n c ih => intro t g o t' g' h; rw [codeS_lck]; exact ih h
  | lckS n c ih => intro t g o t' g' h; rw [codeS_lckS]; exact ih h
  | imm n c ih =>
    intro t g o t' g' h
    have h : (match frzK g.hp depth (kev b t n) with
      | some v => ET.putK v (n + 1) t n fun t' => codeK orc call b k c t' ⟨lock g.hp (vis g.hp depth (kev b t n)), g.nx⟩
      | none => none) = some (o, t', g') := h
    rw [frzK_ok] at h
    rw [codeS_imm]
    cases hf : frz g.hp depth (kev b t n) with
    | none => rw [hf] at h; cases h
    | some v =>
      rw [hf] at h
      obtain ⟨t1, e1, e2⟩ := putO_ok b (some n) v t fun t' => codeK orc call b k c t' ⟨lock g.hp (vis g.hp depth (kev b t n)), g.nx⟩
      have e1' : ET.putK v (n + 1) t n (fun t' => codeK orc call b k c t' ⟨lock g.hp (vis g.hp depth (kev b t n)), g.nx⟩) = _ := e1
      simp only [e1'] at h
      have e3 : upd (kev b t) n v = kev b t1 := e2.symm
      simp only [e3]
      exact ih h
  | reg draw ops =>
    intro t g o t' g' h
    have h : (frcN g.nx fun base => frcN (base + ops.length) fun nx => match regK orc call b draw base ops 0 t ⟨g.hp, nx⟩ with
      | some (t, g) => some (Out.nrm, t, g)
      | none => none) = some (o, t', g') := h
    simp only [frcN_ok] at h
    rw [codeS_reg]
    cases hr : regK orc call b draw g.nx ops 0 t ⟨g.hp, g.nx + ops.length⟩ with
    | none => rw [hr] at h; cases h
    | some r =>
      obtain ⟨t1, g1⟩ := r
      rw [hr] at h
      cases h
      rw [regK_ok ho hc hr]
  | seq x y ihx ihy =>
    intro t g o t' g' h
    have h : (match codeK orc call b k x t g with
      | some (.nrm, t, g) => codeK orc call b k y t g
      | r => r) = some (o, t', g') := h
    rw [codeS_seq]
    cases hx : codeK orc call b k x t g with
    | none => rw [hx] at h; cases h
    | some r =>
      obtain ⟨o1, t1, g1⟩ := r
      rw [hx] at h
      rw [ihx hx]
      cases o1 with
      | nrm => exact ihy h
      | ext n => cases h; rfl
      | ret => cases h; rfl
  | cond x y z ihy ihz =>
    intro t g o t' g' h
    have h : (match x.ev (kev b t) with
      | .b w => Bool.rec (motive := fun _ => Option (Out × ET × G)) (codeK orc call b k z t g) (codeK orc call b k y t g) w
      | _ => none) = some (o, t', g') := h
    rw [codeS_cond]
    generalize x.ev (kev b t) = v at h ⊢
    cases v with
    | b w =>
      cases w with
      | true => exact ihy h
      | false => exact ihz h
    | _ => cases h
  | blk id c ih =>
    intro t g o t' g' h
    have h : (match codeK orc call b k c t g with
      | some (.ext n, t, g) => some (Bool.rec (motive := fun _ => Out) (.ext n) .nrm (Nat.beq n id), t, g)
      | r => r) = some (o, t', g') := h
    rw [codeS_blk]
    cases hx : codeK orc call b k c t g with
    | none => rw [hx] at h; cases h
    | some r =>
      obtain ⟨o1, t1, g1⟩ := r
      rw [hx] at h
      rw [ih hx]
      cases o1 with
      | nrm => cases h; rfl
      | ret => cases h; rfl
      | ext n =>
        simp only at h ⊢
        cases hb : Nat.beq n id with
        | true => rw [hb] at h; cases h; rw [if_pos (Nat.eq_of_beq_eq_true hb)]
        | false => rw [hb] at h; cases h; rw [if_neg (Nat.ne_of_beq_eq_false hb)]
  | loop c ih =>
    intro t g o t' g' h
    have key : ∀ (j : Nat) (t : ET) (g : G), iterK (codeK orc call b k c) j t g = some (o, t', g') → codeS F (.loop c) (kev b t) g = some (o, kev b t', g') := by
      intro j
      induction j with
      | zero => intro t g h; cases h
      | succ j ihj =>
        intro t g h
        have h : (match codeK orc call b k c t g with
          | some (.nrm, t, g) => iterK (codeK orc call b k c) j t g
          | r => r) = some (o, t', g') := h
        rw [codeS_loop]
        cases hx : codeK orc call b k c t g with
        | none => rw [hx] at h; cases h
        | some r =>
          obtain ⟨o1, t1, g1⟩ := r
          rw [hx] at h
          rw [ih hx]
          cases o1 with
          | nrm => exact ihj _ _ h
          | ext n => cases h; rfl
          | ret => cases h; rfl
    exact key k t g h
theorem callK_ok : ∀ (k : Nat), CLe (callK orc F k) (callS F)
  | 0 => fun _ _ _ _ h => by cases h
  | k + 1 => fun f asx g r h => by
    have h : (match F f with
      | none => none
      | some fn => match codeK orc (callK orc F k) (argEnv asx) k fn.body .leaf g with
        | some (.nrm, t, g) => (resE fn.res (kev (argEnv asx) t) g).map (·, g)
        | some (.ret, t, g) => (resE fn.res (kev (argEnv asx) t) g).map (·, g)
        | _ => none) = some r := h
    rw [callS_eq]
    cases hF : F f with
    | none => rw [hF] at h; cases h
    | some fn =>
      rw [hF] at h
      simp only at h ⊢
      have e0 : kev (argEnv asx) .leaf = argEnv asx := rfl
      cases hx : codeK orc (callK orc F k) (argEnv asx) k fn.body .leaf g with
      | none => rw [hx] at h; cases h
      | some q =>
        obtain ⟨o1, t1, g1⟩ := q
        rw [hx] at h
        have := codeK_ok ho (callK_ok k) hx
        rw [e0] at this
        rw [this]
        cases o1 with
        | nrm => exact h
        | ext n => cases h
        | ret => exact h
noncomputable def evK (orc : Orc) (F : Funs) (k : Nat) (rs : List ARes) (c : ACode) (e : Env) (g : G) : Bool :=
  match codeK orc (callK orc F k) e k c .leaf g with
  | some (.nrm, t, g) => (match resE rs (kev e t) g with | some v => (match frzK g.hp depth v with | some (.b x) => x | _ => false) | none => false)
  | some (.ret, t, g) => (match resE rs (kev e t) g with | some v => (match frzK g.hp depth v with | some (.b x) => x | _ => false) | none => false)
  | _ => false
theorem W_eval (k : Nat) {rs : List ARes} {c : ACode} {e : Env} {g : G} (h : evK orc F k rs c e g = true) : W F c e g (retQ rs (.b true)) := by
  unfold evK at h
  have fin : ∀ (t : ET) (g : G), (match resE rs (kev e t) g with | some v => (match frzK g.hp depth v with | some (.b x) => x | _ => false) | none => false) = true → (match resE rs (kev e t) g with | some v0 => frz g.hp depth v0 | none => none) = some (.b true) := by
    intro t g h
    cases hr : resE rs (kev e t) g with
    | none => rw [hr] at h; cases h
    | some v =>
      rw [hr] at h
      simp only [frzK_ok] at h ⊢
      cases hf : frz g.hp depth v with
      | none => rw [hf] at h; cases h
      | some w =>
        rw [hf] at h
        cases w <;> first | (cases h; done) | (simp only at h; subst h; rfl)
  split at h
  · rename_i t g1 hx
    exact ⟨_, _, _, codeK_ok ho (callK_ok ho k) hx, fin t g1 h⟩
  · rename_i t g1 hx
    exact ⟨_, _, _, codeK_ok ho (callK_ok ho k) hx, fin t g1 h⟩
  · cases h
theorem pure_eval (k : Nat) {f : Nat} {fn : AFun} {asx : List AV} (hF : F f = some fn) (h : evK orc F k fn.res fn.body (argEnv asx) g0 = true) : pureS F f asx = some (.b true) :=
  pure_of hF (W_eval ho k h)
end
end Go.Ab
end
