/- What ImmFences rests on, part 4: lemmas, no claim of its own. -/
import Derived.Test.YtkiecemdbkjccaaPImmFences3
section
set_option linter.unusedVariables false
set_option linter.unusedSimpArgs false
namespace Go.Ab
variable {F : Funs}
def nEx (X : Gr) (k : Nat) : Nat := ((X.evs.take k).filter (·.ex)).length
theorem nEx_succ {X : Gr} {k : Nat} (h : k < X.evs.length) : nEx X (k + 1) = if (X.evs.getD k ev0).ex then nEx X k + 1 else nEx X k := by
  unfold nEx
  rw [List.take_add_one, List.filter_append, List.getElem?_eq_getElem h, List.getD_eq_getElem?_getD, List.getElem?_eq_getElem h, List.length_append]
  simp only [Option.toList_some, Option.getD_some, List.filter_cons, List.filter_nil]
  split <;> simp
theorem nEx_le (X : Gr) (k : Nat) : nEx X k ≤ k := by
  unfold nEx
  have h1 := List.length_filter_le (·.ex) (X.evs.take k)
  rw [List.length_take] at h1
  omega
def rmLast (X : Gr) (k : Nat) : Int := if k = 0 then -1 else (X.rmw.getD (k - 1) (0, 0)).2
def rmK (X : Gr) (k : Nat) : Bool := !((X.rmw.getD k (0, 0)).2 != (X.rmw.getD k (0, 0)).1 + 1) && !decide ((X.rmw.getD k (0, 0)).1 ≤ rmLast X k)
def gRmw (X : Gr) : Bool := gList X mayR X.rmw && (allN X.rmw.length (rmK X) && ((nEx X X.evs.length : Int) == 2 * (X.rmw.length : Int)))
theorem gList_at {X : Gr} {may} {l : List (Int × Int)} (h : gList X may l = true) {k : Nat} (hk : k < l.length) : 0 ≤ (l.getD k (0, 0)).1 ∧ (l.getD k (0, 0)).1 < (l.getD k (0, 0)).2 ∧ (l.getD k (0, 0)).2 < X.evs.length := by
  have := allN_iff.1 h k hk
  unfold lsK at this
  simp only [Bool.and_eq_true, Bool.not_eq_true', decide_eq_false_iff_not] at this
  obtain ⟨h1, h2, h3, _⟩ := this
  omega
set_option maxRecDepth 100000 in
set_option maxHeartbeats 8000000 in
theorem sg_rmw (h190 : F 190 = some A_graph_rmw) (h238 : F 238 = some A_graph_rmw_1) (h192 : F 192 = some A_graph_list) (h239 : F 239 = some A_graph_order) (pc : Pk_cmp F) {X : Gr} (hn : X.evs.length ≤ 1000) (hr : X.rmw.length ≤ 1000) : pureS F 190 [.agg (grC X)] = some (.b (gRmw X)) := by
  refine pure_of h190 ?_
  have hR : gRmw X = (gList X mayR X.rmw && (allN X.rmw.length (rmK X) && ((nEx X X.evs.length : Int) == 2 * (X.rmw.length : Int)))) := rfl
  have hl := sg_list h192 h239 pc hn (sg_mayR h238) X.rmw hr
  cases c0 : gList X mayR X.rmw
  · rw [c0] at hR hl
    rw [hR]
    simp (disch := omega) only [A_graph_rmw, wp, Nat.reduceAdd, Nat.reduceMul, Nat.reduceSub, gl, hl]
  rw [c0] at hl
  rw [c0, Bool.true_and] at hR
  have hat := fun {k : Nat} (hk : k < X.rmw.length) => gList_at c0 hk
  have finF : ∀ k, k < X.rmw.length → rmK X k = false → gRmw X = false := fun k hk h => by rw [hR, allN_f hk h]; rfl
  have finT : (∀ i, i < X.rmw.length → rmK X i = true) → gRmw X = ((nEx X X.evs.length : Int) == 2 * (X.rmw.length : Int)) := fun h => by rw [hR, allN_t h, Bool.true_and]
  clear hR
  generalize gRmw X = R at finT finF
  simp (disch := omega) only [A_graph_rmw, wp, Nat.reduceAdd, Nat.reduceMul, Nat.reduceSub, gl, hl]
  refine blk_cut (fun e g => e 1 = .mp 0 0 ∧ e 4 = .i .i64 (nEx X X.evs.length : Nat) ∧ g.hp 0 = some (.cells (grC X) false) ∧ 0 < g.nx) ?_ ?_
  · refine W_loop (fun q e g => ∃ k : Nat, q = X.evs.length - k ∧ k ≤ X.evs.length ∧ e 1 = .mp 0 0 ∧ e 4 = .i .i64 (nEx X k : Nat) ∧ e 17 = .sl (evsC X.evs) X.evs.length .non ∧ e 18 = .i .i64 X.evs.length ∧ e 19 = .i .i64 k ∧ g.hp 0 = some (.cells (grC X) false) ∧ 0 < g.nx) X.evs.length ?_ ?_
    · refine ⟨0, rfl, Nat.zero_le _, ?_⟩
      simp (disch := omega) only [wp, Nat.reduceAdd, Nat.reduceMul, Nat.reduceSub]
      exact ⟨rfl, rfl, by first | omega | (dsimp only; omega)⟩
    · rintro q e g ⟨k, rfl, hk, e1, e4, e17, e18, e19, hg, hnx⟩
      by_cases hk' : k < X.evs.length
      · have hk1 : (k : Int) < X.evs.length := by omega
        have hwk := succ_wrap (k := k) (by omega)
        have hev := ev_part hk'
        have hs := nEx_succ hk'
        have hle := nEx_le X k
        generalize nEx X k = c at e4 hs hle
        have hwc := succ_wrap (k := c) (by omega)
        generalize X.evs.getD k ev0 = ev at hev hs
        have n1 : 0 ≠ g.nx + 1 + 1 := by omega
        cases c1 : ev.ex
        · rw [c1] at hs
          simp (disch := omega) only [wp, Nat.reduceAdd, Nat.reduceMul, Nat.reduceSub, gl, e1, e4, e17, e18, e19, hg, hk1, hev, c1, hwk]
          exact ⟨X.evs.length - (k + 1), by omega, k + 1, rfl, by omega, by rw [hs]; rfl, rfl, by first | omega | (dsimp only; omega)⟩
        · rw [c1] at hs
          simp (disch := omega) only [wp, Nat.reduceAdd, Nat.reduceMul, Nat.reduceSub, gl, e1, e4, e17, e18, e19, hg, hk1, hev, c1, hwk, hwc]
          exact ⟨X.evs.length - (k + 1), by omega, k + 1, rfl, by omega, by rw [hs]; rfl, rfl, by first | omega | (dsimp only; omega)⟩
      · have hk1 : ¬ ((k : Int) < X.evs.length) := by omega
        obtain rfl : k = X.evs.length := by omega
        simp (disch := omega) only [wp, Nat.reduceAdd, Nat.reduceMul, Nat.reduceSub, gl, e1, e4, e17, e18, e19, hg, hk1]
        exact (by first | omega | (dsimp only; omega))
  · rintro e g ⟨e1, e4, hg, hnx⟩
    generalize nEx X X.evs.length = N at e4 finT
    simp (disch := omega) only [wp, Nat.reduceAdd, Nat.reduceMul, Nat.reduceSub, gl, e1, e4, hg]
    refine W_loop (fun q e g => ∃ k : Nat, q = X.rmw.length - k ∧ k ≤ X.rmw.length ∧ e 1 = .mp 0 0 ∧ e 4 = .i .i64 N ∧ e 7 = .i .i64 (rmLast X k) ∧ e 29 = .sl (pairsC X.rmw) X.rmw.length .non ∧ e 30 = .i .i64 X.rmw.length ∧ e 31 = .i .i64 k ∧ g.hp 0 = some (.cells (grC X) false) ∧ 0 < g.nx ∧ ∀ i, i < k → rmK X i = true) X.rmw.length ?_ ?_
    · refine ⟨0, rfl, Nat.zero_le _, ?_⟩
      simp (disch := omega) only [wp, Nat.reduceAdd, Nat.reduceMul, Nat.reduceSub, e1, e4]
      exact ⟨rfl, rfl, hg, by first | omega | (dsimp only; omega), fun i hi => by omega⟩
    · rintro q e g ⟨k, rfl, hk, e1, e4, e7, e29, e30, e31, hg, hnx, hall⟩
      by_cases hk' : k < X.rmw.length
      · have hk1 : (k : Int) < X.rmw.length := by omega
        have hwk := succ_wrap (k := k) (by omega)
        have hpp := pairs_part hk'
        have hb := hat hk'
        have hK : rmK X k = (!((X.rmw.getD k (0, 0)).2 != (X.rmw.getD k (0, 0)).1 + 1) && !decide ((X.rmw.getD k (0, 0)).1 ≤ rmLast X k)) := rfl
        have hL : rmLast X (k + 1) = (X.rmw.getD k (0, 0)).2 := rfl
        have hf := finF k hk'
        rw [hK] at hf
        have hall' : rmK X k = true → ∀ i, i < k + 1 → rmK X i = true := by
          intro h i hi
          by_cases hik : i = k
          · subst hik; exact h
          · exact hall i (by omega)
        rw [hK] at hall'
        generalize rmLast X k = la at e7 hf hall'
        generalize X.rmw.getD k (0, 0) = p at hpp hf hall' hL hb
        obtain ⟨a, b⟩ := p
        simp only at hpp hf hall' hL hb
        have s2 : ∀ b1 b2 c1 c2 : AV, splice [b1, b2] 0 [c1, c2] = [c1, c2] := fun _ _ _ _ => rfl
        have n1 : 0 ≠ g.nx + 1 + 1 := by omega
        have hwa : IntKind.i64.wrap (a + 1) = a + 1 := by rw [i64_wrap (by omega) (by omega)]
        cases c1 : (b != a + 1)
        · by_cases c2 : a ≤ la
          · obtain rfl := hf (by simp [c2])
            simp (disch := omega) only [wp, Nat.reduceAdd, Nat.reduceMul, Nat.reduceSub, gl, s2, e1, e4, e7, e29, e30, e31, hg, hk1, hpp, hwa, c1, c2]
          · rw [c1] at hall'
            have hall' := hall' (by simp [c2])
            simp (disch := omega) only [wp, Nat.reduceAdd, Nat.reduceMul, Nat.reduceSub, gl, s2, e1, e4, e7, e29, e30, e31, hg, hk1, hpp, hwa, c1, c2, hwk]
            exact ⟨X.rmw.length - (k + 1), by omega, k + 1, rfl, by omega, by rw [hL], rfl, by first | omega | (dsimp only; omega), hall'⟩
        · rw [c1] at hf
          obtain rfl := hf rfl
          simp (disch := omega) only [wp, Nat.reduceAdd, Nat.reduceMul, Nat.reduceSub, gl, s2, e1, e4, e7, e29, e30, e31, hg, hk1, hpp, hwa, c1]
      · have hk1 : ¬ ((k : Int) < X.rmw.length) := by omega
        obtain rfl : k = X.rmw.length := by omega
        obtain rfl := finT hall
        have hwm : IntKind.i64.wrap (2 * (X.rmw.length : Int)) = 2 * (X.rmw.length : Int) := by rw [i64_wrap (by omega) (by omega)]
        simp (disch := omega) only [wp, Nat.reduceAdd, Nat.reduceMul, Nat.reduceSub, gl, e1, e4, e7, e29, e30, e31, hg, hk1, hwm]
end Go.Ab
end
section
set_option linter.unusedVariables false
set_option linter.unusedSimpArgs false
namespace Go.Ab
variable {F : Funs}
def seenC (L : List Int) : List AV := (List.range 40).map fun i : Nat => .b (L.contains (i : Int))
theorem seenC_len (L) : (seenC L).length = 40 := by simp [seenC]
theorem seenC_zero : List.replicate 40 (AV.b false) = seenC [] := by rfl
theorem seen_at {L : List Int} {a : Nat} (h : a < 40) : part (seenC L) (a * 1) none = some (.b (L.contains (a : Int))) := by
  simp only [part, seenC, Nat.mul_one, List.getElem?_map, List.getElem?_range h, Option.map_some]
theorem seen_set {L : List Int} {a : Nat} (h : a < 40) : (seenC L).set (a * 1) (.b true) = seenC (L ++ [(a : Int)]) := by
  rw [Nat.mul_one]
  refine List.ext_getElem? fun i => ?_
  rw [List.getElem?_set]
  unfold seenC
  simp only [List.length_map, List.length_range, List.getElem?_map]
  by_cases hi : a = i
  · subst hi
    rw [if_pos rfl, if_pos h, List.getElem?_range h]
    simp
  · rw [if_neg hi]
    by_cases hl : i < 40
    · rw [List.getElem?_range hl]
      simp only [Option.map_some, Option.some.injEq, AV.b.injEq, List.contains_eq_mem, List.mem_append, List.mem_singleton]
      have hne : ¬ ((i : Int) = (a : Int)) := by omega
      simp [hne]
    · rw [List.getElem?_eq_none (by simp; omega)]; rfl
def coS' (X : Gr) (k j : Nat) : List Int := (X.co.take k).flatten ++ (X.co.getD k []).take j
theorem coS'_succ {X : Gr} {k j : Nat} (h : j < (X.co.getD k []).length) : coS' X k (j + 1) = coS' X k j ++ [(X.co.getD k []).getD j 0] := by
  unfold coS'
  rw [List.take_add_one, List.getElem?_eq_getElem h, List.append_assoc, List.getD_eq_getElem?_getD (l := X.co.getD k []), List.getElem?_eq_getElem h]
  rfl
theorem coS'_next {X : Gr} {k : Nat} (h : k < X.co.length) : coS' X k (X.co.getD k []).length = coS' X (k + 1) 0 := by
  unfold coS'
  rw [List.take_length, List.take_zero, List.append_nil, List.take_add_one, List.getElem?_eq_getElem h, List.getD_eq_getElem?_getD, List.getElem?_eq_getElem h, List.flatten_append]
  simp
theorem coS'_end (X : Gr) : coS' X X.co.length 0 = X.co.flatten := by
  unfold coS'
  rw [List.take_length, List.take_zero, List.append_nil]
theorem coS'_le {X : Gr} {k j : Nat} (h : k < X.co.length) : (coS' X k j).length ≤ X.co.flatten.length := by
  have e : X.co = X.co.take k ++ X.co.drop k := (List.take_append_drop k X.co).symm
  have e2 : X.co.drop k = X.co.getD k [] :: X.co.drop (k + 1) := by
    rw [List.drop_eq_getElem_cons h, List.getD_eq_getElem?_getD, List.getElem?_eq_getElem h]; rfl
  have e3 : X.co.flatten = (X.co.take k).flatten ++ (X.co.getD k [] ++ (X.co.drop (k + 1)).flatten) := by
    conv => lhs; rw [e, e2]
    rw [List.flatten_append, List.flatten_cons]
  rw [e3]
  unfold coS'
  simp only [List.length_append, List.length_take]
  omega
def ciK (X : Gr) (k j : Nat) : Bool := gWr X ((X.co.getD k []).getD j 0) k && !(coS' X k j).contains ((X.co.getD k []).getD j 0)
def coK (X : Gr) (k : Nat) : Bool := !(((X.co.getD k []).length : Int) == 0) && (!((X.co.getD k []).getD 0 0 != (k : Int)) && allN (X.co.getD k []).length (ciK X k))
def nWr (X : Gr) (k : Nat) : Nat := ((X.evs.take k).filter (·.kd == 2)).length
theorem nWr_succ {X : Gr} {k : Nat} (h : k < X.evs.length) : nWr X (k + 1) = if (X.evs.getD k ev0).kd == 2 then nWr X k + 1 else nWr X k := by
  unfold nWr
  rw [List.take_add_one, List.filter_append, List.getElem?_eq_getElem h, List.getD_eq_getElem?_getD, List.getElem?_eq_getElem h, List.length_append]
  simp only [Option.toList_some, Option.getD_some, List.filter_cons, List.filter_nil]
  split <;> simp
theorem nWr_le (X : Gr) (k : Nat) : nWr X k ≤ k := by
  unfold nWr
  have h1 := List.length_filter_le (·.kd == 2) (X.evs.take k)
  rw [List.length_take] at h1
  omega
def gCo (X : Gr) : Bool := ((X.co.length : Int) == X.locs) && (allN X.co.length (coK X) && ((X.co.flatten.length : Int) - (nWr X X.evs.length : Int) == 0))
set_option maxRecDepth 100000 in
set_option maxHeartbeats 8000000 in
theorem sg_co (h189 : F 189 = some A_graph_co) (h237 : F 237 = some A_graph_write) {X : Gr} (hn : X.evs.length ≤ 40) (hc : X.co.flatten.length ≤ 1000) (hc6 : X.co.length ≤ 1000) (hcl : ∀ k, (X.co.getD k []).length ≤ 1000) : pureS F 189 [.agg (grC X)] = some (.b (gCo X)) := by
  refine pure_of h189 ?_
  have hR : gCo X = (((X.co.length : Int) == X.locs) && (allN X.co.length (coK X) && ((X.co.flatten.length : Int) - (nWr X X.evs.length : Int) == 0))) := rfl
  cases c0 : ((X.co.length : Int) == X.locs)
  · rw [c0] at hR
    have c0' : ((X.co.length : Int) != X.locs) = true := by unfold bne; rw [c0]; rfl
    rw [hR]
    simp (disch := omega) only [A_graph_co, wp, Nat.reduceAdd, Nat.reduceMul, Nat.reduceSub, gl, c0']
  rw [c0, Bool.true_and] at hR
  have c0' : ((X.co.length : Int) != X.locs) = false := by unfold bne; rw [c0]; rfl
  have finF : ∀ k, k < X.co.length → coK X k = false → gCo X = false := fun k hk h => by rw [hR, allN_f hk h]; rfl
  have finT : (∀ i, i < X.co.length → coK X i = true) → gCo X = ((X.co.flatten.length : Int) - (nWr X X.evs.length : Int) == 0) := fun h => by rw [hR, allN_t h, Bool.true_and]
  clear hR
  generalize gCo X = R at finT finF
  simp (disch := omega) only [A_graph_co, wp, Nat.reduceAdd, Nat.reduceMul, Nat.reduceSub, gl, c0', seenC_zero]
  refine blk_cutR (fun e g => e 1 = .mp 0 0 ∧ e 3 = .i .i64 X.co.flatten.length ∧ g.hp 0 = some (.cells (grC X) false) ∧ 0 < g.nx ∧ ∀ i, i < X.co.length → coK X i = true) ?_ ?_
  · refine W_loop (fun q e g => ∃ k : Nat, q = X.co.length - k ∧ k ≤ X.co.length ∧ e 1 = .mp 0 0 ∧ e 3 = .i .i64 (coS' X k 0).length ∧ e 4 = .mp 9 0 ∧ e 18 = .sl (coC X.co) X.co.length .non ∧ e 19 = .i .i64 X.co.length ∧ e 20 = .i .i64 k ∧ g.hp 0 = some (.cells (grC X) false) ∧ g.hp 9 = some (.cells (seenC (coS' X k 0)) false) ∧ 9 < g.nx ∧ ∀ i, i < k → coK X i = true) X.co.length ?_ ?_
    · refine ⟨0, rfl, Nat.zero_le _, ?_⟩
      simp (disch := omega) only [wp, Nat.reduceAdd, Nat.reduceMul, Nat.reduceSub]
      exact ⟨rfl, rfl, rfl, by first | omega | (dsimp only; omega), fun i hi => by omega⟩
    · rintro q e g ⟨k, rfl, hk, e1, e3, e4, e18, e19, e20, hg, hs, hnx, hall⟩
      by_cases hk' : k < X.co.length
      · have hk1 : (k : Int) < X.co.length := by omega
        have hwk := succ_wrap (k := k) (by omega)
        have hcp := co_part hk'
        have hK : coK X k = (!(((X.co.getD k []).length : Int) == 0) && (!((X.co.getD k []).getD 0 0 != (k : Int)) && allN (X.co.getD k []).length (ciK X k))) := rfl
        have hci : ∀ j, ciK X k j = (gWr X ((X.co.getD k []).getD j 0) k && !(coS' X k j).contains ((X.co.getD k []).getD j 0)) := fun _ => rfl
        have hf := finF k hk'
        rw [hK] at hf
        have hall' : coK X k = true → ∀ i, i < k + 1 → coK X i = true := by
          intro h i hi
          by_cases hik : i = k
          · subst hik; exact h
          · exact hall i (by omega)
        rw [hK] at hall'
        have hll := hcl k
        have hsu := fun {j : Nat} (h : j < (X.co.getD k []).length) => coS'_succ h
        have hnx' := coS'_next hk'
        have hle := fun j => coS'_le (X := X) (k := k) (j := j) hk'
        generalize X.co.getD k [] = l at hcp hf hall' hll hsu hnx' hci
        cases c1 : ((l.length : Int) == 0)
        case true =>
          rw [c1] at hf
          obtain rfl := hf rfl
          simp (disch := omega) only [wp, Nat.reduceAdd, Nat.reduceMul, Nat.reduceSub, gl, e1, e3, e4, e18, e19, e20, hg, hs, hk1, hcp, c1]
        have hl0 : 0 < l.length := by have : ¬ (l.length : Int) = 0 := by simpa using c1
                                      omega
        have hl0' : (0 : Int) < l.length := by omega
        have hip := ints_part hl0
        rw [Nat.zero_mul, List.drop_zero] at hip
        cases c2 : (l.getD 0 0 != (k : Int))
        case true =>
          rw [c2] at hf
          obtain rfl := hf (by simp)
          simp (disch := omega) only [wp, Nat.reduceAdd, Nat.reduceMul, Nat.reduceSub, gl, e1, e3, e4, e18, e19, e20, hg, hs, hk1, hcp, c1, hl0', hip, c2]
        rw [c1, c2] at hf hall'
        have hf : ∀ j, j < l.length → ciK X k j = false → R = false := fun j hj h => hf (by rw [allN_f hj h]; rfl)
        have hall' : (∀ j, j < l.length → ciK X k j = true) → ∀ i, i < k + 1 → coK X i = true := fun h => hall' (by rw [allN_t h]; rfl)
        simp (disch := omega) only [wp, Nat.reduceAdd, Nat.reduceMul, Nat.reduceSub, gl, e1, e3, e4, e18, e19, e20, hg, hs, hk1, hcp, c1, hl0', hip, c2]
        refine W_loop (fun q e g => ∃ j : Nat, q = l.length - j ∧ j ≤ l.length ∧ e 1 = .mp 0 0 ∧ e 3 = .i .i64 (coS' X k j).length ∧ e 4 = .mp 9 0 ∧ e 5 = .i .i64 k ∧ e 18 = .sl (coC X.co) X.co.length .non ∧ e 19 = .i .i64 X.co.length ∧ e 20 = .i .i64 k ∧ e 35 = .sl (intsC l) l.length .non ∧ e 36 = .i .i64 l.length ∧ e 37 = .i .i64 j ∧ g.hp 0 = some (.cells (grC X) false) ∧ g.hp 9 = some (.cells (seenC (coS' X k j)) false) ∧ 9 < g.nx ∧ ∀ i, i < j → ciK X k i = true) l.length ?_ ?_
        · refine ⟨0, rfl, Nat.zero_le _, ?_⟩
          simp (disch := omega) only [wp, Nat.reduceAdd, Nat.reduceMul, Nat.reduceSub, e1, e3, e4, e18, e19, e20]
          exact ⟨rfl, hg, hs, by first | omega | (dsimp only; omega), fun i hi => by omega⟩
        · rintro q e g ⟨j, rfl, hj, e1, e3, e4, e5, e18, e19, e20, e35, e36, e37, hg, hs, hnx, hin⟩
          by_cases hj' : j < l.length
          · have hj1 : (j : Int) < l.length := by omega
            have hwj := succ_wrap (k := j) (by omega)
            have hjp := ints_part hj'
            have hw := sg_write h237 X (l.getD j 0) k
            have hwin := gWr_in (X := X) (i := l.getD j 0) (loc := k)
            have hff := hf j hj'
            have hcj := hci j
            have hsu := hsu hj'
            have hlj := hle j
            rw [hcj] at hff
            have hin' : ciK X k j = true → ∀ i, i < j + 1 → ciK X k i = true := by
              intro h i hi
              by_cases hij : i = j
              · subst hij; exact h
              · exact hin i (by omega)
            rw [hcj] at hin'
            generalize l.getD j 0 = w at hjp hw hwin hff hin' hsu
            generalize coS' X k j = L at e3 hs hff hin' hsu hlj
            have hwc := succ_wrap (k := L.length) (by omega)
            cases c3 : gWr X w k
            · rw [c3] at hw hff
              obtain rfl := hff rfl
              simp (disch := omega) only [wp, Nat.reduceAdd, Nat.reduceMul, Nat.reduceSub, gl, e1, e3, e4, e5, e18, e19, e20, e35, e36, e37, hg, hs, hj1, hjp, hw]
            · obtain ⟨w0, w1⟩ := hwin c3
              rw [c3] at hw hff hin'
              have ra := seen_at (L := L) (a := w.toNat) (by omega)
              have sa := seen_set (L := L) (a := w.toNat) (by omega)
              have ew : ((w.toNat : Nat) : Int) = w := by omega
              rw [ew] at ra sa
              have w40 : w < 40 := by omega
              cases c4 : L.contains w
              · rw [c4] at ra hin'
                have hin' := hin' rfl
                simp (disch := omega) only [wp, Nat.reduceAdd, Nat.reduceMul, Nat.reduceSub, gl, e1, e3, e4, e5, e18, e19, e20, e35, e36, e37, hg, hs, hj1, hjp, hw, w0, w40, ra, sa, seenC_len, hwj, hwc]
                refine ⟨l.length - (j + 1), by omega, j + 1, rfl, by omega, by rw [hsu, List.length_append]; rfl, rfl, by rw [hsu], by first | omega | (dsimp only; omega), hin'⟩
              · rw [c4] at ra hff
                obtain rfl := hff rfl
                simp (disch := omega) only [wp, Nat.reduceAdd, Nat.reduceMul, Nat.reduceSub, gl, e1, e3, e4, e5, e18, e19, e20, e35, e36, e37, hg, hs, hj1, hjp, hw, w0, w40, ra]
          · have hj1 : ¬ ((j : Int) < l.length) := by omega
            obtain rfl : j = l.length := by omega
            rw [hnx'] at e3 hs
            simp (disch := omega) only [wp, Nat.reduceAdd, Nat.reduceMul, Nat.reduceSub, gl, e1, e3, e4, e5, e18, e19, e20, e35, e36, e37, hg, hs, hj1, hwk]
            exact ⟨X.co.length - (k + 1), by omega, k + 1, rfl, by omega, rfl, rfl, by first | rfl | exact hs | omega, by first | omega | (dsimp only; omega), hall' hin⟩
      · have hk1 : ¬ ((k : Int) < X.co.length) := by omega
        obtain rfl : k = X.co.length := by omega
        rw [coS'_end] at e3
        simp (disch := omega) only [wp, Nat.reduceAdd, Nat.reduceMul, Nat.reduceSub, gl, e1, e3, e4, e18, e19, e20, hg, hs, hk1]
        exact ⟨by first | omega | (dsimp only; omega), hall⟩
  · rintro e g ⟨e1, e3, hg, hnx, hall⟩
    obtain rfl := finT hall
    generalize X.co.flatten.length = T at e3 hc
    simp (disch := omega) only [wp, Nat.reduceAdd, Nat.reduceMul, Nat.reduceSub, gl, e1, e3, hg]
    refine W_loop (fun q e g => ∃ k : Nat, q = X.evs.length - k ∧ k ≤ X.evs.length ∧ e 1 = .mp 0 0 ∧ e 3 = .i .i64 ((T : Int) - (nWr X k : Nat)) ∧ e 58 = .sl (evsC X.evs) X.evs.length .non ∧ e 59 = .i .i64 X.evs.length ∧ e 60 = .i .i64 k ∧ g.hp 0 = some (.cells (grC X) false) ∧ 0 < g.nx) X.evs.length ?_ ?_
    · refine ⟨0, rfl, Nat.zero_le _, ?_⟩
      simp (disch := omega) only [wp, Nat.reduceAdd, Nat.reduceMul, Nat.reduceSub, e1, e3]
      exact ⟨by simp [nWr], rfl, hg, by first | omega | (dsimp only; omega)⟩
    · rintro q e g ⟨k, rfl, hk, e1, e3, e58, e59, e60, hg, hnx⟩
      by_cases hk' : k < X.evs.length
      · have hk1 : (k : Int) < X.evs.length := by omega
        have hwk := succ_wrap (k := k) (by omega)
        have hev := ev_part hk'
        have hs := nWr_succ hk'
        have hle := nWr_le X k
        generalize nWr X k = c at e3 hs hle
        have hwc : IntKind.i64.wrap ((T : Int) - (c : Nat) - 1) = (T : Int) - ((c + 1 : Nat) : Int) := by rw [i64_wrap (by omega) (by omega)]; omega
        generalize X.evs.getD k ev0 = ev at hev hs
        have n1 : 0 ≠ g.nx + 1 + 1 := by omega
        cases c1 : (ev.kd == 2)
        · rw [c1] at hs
          simp (disch := omega) only [wp, Nat.reduceAdd, Nat.reduceMul, Nat.reduceSub, gl, e1, e3, e58, e59, e60, hg, hk1, hev, c1, hwk]
          exact ⟨X.evs.length - (k + 1), by omega, k + 1, rfl, by omega, by rw [hs]; rfl, rfl, by first | omega | (dsimp only; omega)⟩
        · rw [c1] at hs
          simp (disch := omega) only [wp, Nat.reduceAdd, Nat.reduceMul, Nat.reduceSub, gl, e1, e3, e58, e59, e60, hg, hk1, hev, c1, hwk, hwc]
          exact ⟨X.evs.length - (k + 1), by omega, k + 1, rfl, by omega, by rw [hs]; rfl, rfl, by first | omega | (dsimp only; omega)⟩
      · have hk1 : ¬ ((k : Int) < X.evs.length) := by omega
        obtain rfl : k = X.evs.length := by omega
        simp (disch := omega) only [wp, Nat.reduceAdd, Nat.reduceMul, Nat.reduceSub, gl, e1, e3, e58, e59, e60, hg, hk1]
end Go.Ab
end
section
set_option linter.unusedVariables false
set_option linter.unusedSimpArgs false
namespace Go.Ab
variable {F : Funs}
def gCheck (X : Gr) : Bool :=
  !decide (X.locs < 1) && (!decide (4 < X.locs) && (!decide (40 < (X.evs.length : Int)) && (!decide ((X.evs.length : Int) < X.locs) && (gFirst X && (gThr X && (gRf X && (gCo X && (gRmw X && (gList X mayD X.data && (gList X mayD X.ctrl && gList X mayD X.ctrli))))))))))
structure GrFs (F : Funs) : Prop where
  chk : F 152 = some A_graph_Check
  fst : F 186 = some A_graph_first
  thr : F 187 = some A_graph_threads
  rf : F 188 = some A_graph_rf
  co : F 189 = some A_graph_co
  rmw : F 190 = some A_graph_rmw
  chk1 : F 191 = some A_graph_Check_1
  list : F 192 = some A_graph_list
  event : F 236 = some A_graph_event
  write : F 237 = some A_graph_write
  rmw1 : F 238 = some A_graph_rmw_1
  order : F 239 = some A_graph_order
  pc : Pk_cmp F
structure LenG (X : Gr) : Prop where
  fl : X.co.flatten.length ≤ 1000
  col : X.co.length ≤ 1000
  cos : ∀ k, (X.co.getD k []).length ≤ 1000
  rmw : X.rmw.length ≤ 1000
  data : X.data.length ≤ 1000
  ctrl : X.ctrl.length ≤ 1000
  ctrli : X.ctrli.length ≤ 1000
theorem flat_le : ∀ {l : List (List Int)} {m : Nat}, (∀ c ∈ l, c.length ≤ m) → l.flatten.length ≤ l.length * m
  | [], _, _ => by simp
  | c :: l, m, h => by
    have h1 := flat_le (l := l) (m := m) fun c hc => h c (List.mem_cons_of_mem _ hc)
    have h2 := h c (List.mem_cons_self ..)
    rw [List.flatten_cons, List.length_append, List.length_cons, Nat.succ_mul]
    omega
theorem FewG.len {X : Gr} (h : FewG X) : LenG X := by
  have h1 := flat_le h.cos
  have h2 := h.co
  have h3 : X.co.length * 50 ≤ 6 * 50 := Nat.mul_le_mul_right _ h2
  refine ⟨by omega, by omega, fun k => ?_, by have := h.rmw; omega, by have := h.data; omega, by have := h.ctrl; omega, by have := h.ctrli; omega⟩
  by_cases hk : k < X.co.length
  · have hm : X.co.getD k [] ∈ X.co := by
      rw [List.getD_eq_getElem?_getD, List.getElem?_eq_getElem hk]; exact List.getElem_mem hk
    have := h.cos _ hm; omega
  · rw [List.getD_eq_getElem?_getD, List.getElem?_eq_none (by omega)]; simp
set_option maxRecDepth 100000 in
set_option maxHeartbeats 8000000 in
theorem sg_check (S : GrFs F) {X : Gr} (hX : LenG X) : pureS F 152 [.agg (grC X)] = some (.b (gCheck X)) := by
  refine pure_of S.chk ?_
  have hR : gCheck X = (!decide (X.locs < 1) && (!decide (4 < X.locs) && (!decide (40 < (X.evs.length : Int)) && (!decide ((X.evs.length : Int) < X.locs) && (gFirst X && (gThr X && (gRf X && (gCo X && (gRmw X && (gList X mayD X.data && (gList X mayD X.ctrl && gList X mayD X.ctrli))))))))))) := rfl
  generalize gCheck X = R at hR
  by_cases c1 : X.locs < 1
  · obtain rfl : R = false := by rw [hR]; simp [c1]
    simp (disch := omega) only [A_graph_Check, wp, Nat.reduceAdd, Nat.reduceMul, Nat.reduceSub, gl, c1]
  by_cases c2 : 4 < X.locs
  · obtain rfl : R = false := by rw [hR]; simp [c2]
    simp (disch := omega) only [A_graph_Check, wp, Nat.reduceAdd, Nat.reduceMul, Nat.reduceSub, gl, c1, c2]
  by_cases c3 : 40 < (X.evs.length : Int)
  · obtain rfl : R = false := by rw [hR]; simp [c3]
    simp (disch := omega) only [A_graph_Check, wp, Nat.reduceAdd, Nat.reduceMul, Nat.reduceSub, gl, c1, c2, c3]
  by_cases c4 : (X.evs.length : Int) < X.locs
  · obtain rfl : R = false := by rw [hR]; simp [c4]
    simp (disch := omega) only [A_graph_Check, wp, Nat.reduceAdd, Nat.reduceMul, Nat.reduceSub, gl, c1, c2, c3, c4]
  have h5 := sg_first S.fst (X := X) (by omega) (by omega) (by omega)
  have h6 := sg_threads S.thr S.event (X := X) (by omega) (by omega) (by omega)
  have h7 := sg_rf S.rf S.write (X := X) (by omega)
  have h8 := sg_co S.co S.write (X := X) (by omega) hX.fl hX.col hX.cos
  have h9 := sg_rmw S.rmw S.rmw1 S.list S.order S.pc (X := X) (by omega) hX.rmw
  have h10 := sg_list S.list S.order S.pc (X := X) (by omega) (sg_mayD S.chk1) X.data hX.data
  have h11 := sg_list S.list S.order S.pc (X := X) (by omega) (sg_mayD S.chk1) X.ctrl hX.ctrl
  have h12 := sg_list S.list S.order S.pc (X := X) (by omega) (sg_mayD S.chk1) X.ctrli hX.ctrli
  have hR : R = (gFirst X && (gThr X && (gRf X && (gCo X && (gRmw X && (gList X mayD X.data && (gList X mayD X.ctrl && gList X mayD X.ctrli))))))) := by rw [hR]; simp [c1, c2, c3, c4]
  generalize gFirst X = b5 at h5 hR
  generalize gThr X = b6 at h6 hR
  generalize gRf X = b7 at h7 hR
  generalize gCo X = b8 at h8 hR
  generalize gRmw X = b9 at h9 hR
  generalize gList X mayD X.data = b10 at h10 hR
  generalize gList X mayD X.ctrl = b11 at h11 hR
  generalize gList X mayD X.ctrli = b12 at h12 hR
  subst hR
  cases b5
  · simp (disch := omega) only [A_graph_Check, wp, Nat.reduceAdd, Nat.reduceMul, Nat.reduceSub, gl, c1, c2, c3, c4, h5]
  cases b6
  · simp (disch := omega) only [A_graph_Check, wp, Nat.reduceAdd, Nat.reduceMul, Nat.reduceSub, gl, c1, c2, c3, c4, h5, h6]
  cases b7
  · simp (disch := omega) only [A_graph_Check, wp, Nat.reduceAdd, Nat.reduceMul, Nat.reduceSub, gl, c1, c2, c3, c4, h5, h6, h7]
  cases b8
  · simp (disch := omega) only [A_graph_Check, wp, Nat.reduceAdd, Nat.reduceMul, Nat.reduceSub, gl, c1, c2, c3, c4, h5, h6, h7, h8]
  cases b9
  · simp (disch := omega) only [A_graph_Check, wp, Nat.reduceAdd, Nat.reduceMul, Nat.reduceSub, gl, c1, c2, c3, c4, h5, h6, h7, h8, h9]
  cases b10
  · simp (disch := omega) only [A_graph_Check, wp, Nat.reduceAdd, Nat.reduceMul, Nat.reduceSub, gl, c1, c2, c3, c4, h5, h6, h7, h8, h9, h10]
  cases b11
  · simp (disch := omega) only [A_graph_Check, wp, Nat.reduceAdd, Nat.reduceMul, Nat.reduceSub, gl, c1, c2, c3, c4, h5, h6, h7, h8, h9, h10, h11]
  simp (disch := omega) only [A_graph_Check, wp, Nat.reduceAdd, Nat.reduceMul, Nat.reduceSub, gl, c1, c2, c3, c4, h5, h6, h7, h8, h9, h10, h11, h12]
end Go.Ab
end
section
set_option linter.unusedVariables false
set_option linter.unusedSimpArgs false
namespace Go.Ab
variable {F : Funs}
theorem thaw27 (h27 : F 27 = some A_xref01_New) {n : Nat} (hn : n ≤ 40) (al : Nat → Bool) (id : Nat) (g : G) : vThaw F al id (.fn 27 [] []) [.i .i64 n, .sl [] 0 .rig] g = some (.mp id 0, ⟨upd g.hp id (some (.cells (matC n fun _ _ => false) false)), g.nx⟩) :=
  vThaw_S (bs := [.i .i64 n, .sl [] 0 .non]) (by rw [frzL_cons, frzL_cons, frzL_nil, frz_d_i, frz_d_sl]; rfl) (sp_newT h27 hn .non) (by rw [List.flatMap_cons, List.flatMap_cons, vis_i, vis_sl]; rfl)
def stM (φ : Bool → Bool → Bool) (A B : Mx) (N a b : Nat) : Mx := fun i j => if (i < a ∧ j < N) ∨ (i = a ∧ j < b) then φ (A i j) (B i j) else false
theorem stM_succ (φ A B N a b) : upd2 (stM φ A B N a b) a b (φ (A a b) (B a b)) = stM φ A B N a (b + 1) := by
  funext i j
  unfold upd2 stM
  by_cases h : i = a ∧ j = b
  · obtain ⟨rfl, rfl⟩ := h
    rw [if_pos ⟨rfl, rfl⟩, if_pos (.inr ⟨rfl, by omega⟩)]
  · rw [if_neg h]
    by_cases h2 : (i < a ∧ j < N) ∨ (i = a ∧ j < b)
    · rw [if_pos h2, if_pos (by omega)]
    · rw [if_neg h2, if_neg (by omega)]
theorem stM_row (φ A B N a) : stM φ A B N a N = stM φ A B N (a + 1) 0 := by
  funext i j
  unfold stM
  by_cases h2 : (i < a ∧ j < N) ∨ (i = a ∧ j < N)
  · rw [if_pos h2, if_pos (by omega)]
  · rw [if_neg h2, if_neg (by omega)]
theorem stM_0 (φ A B N) : stM φ A B N 0 0 = fun _ _ => false := by
  funext i j
  unfold stM
  rw [if_neg (by omega)]
def opM (φ : Bool → Bool → Bool) (A B : Mx) (N : Nat) : Mx := stM φ A B N N 0
set_option maxRecDepth 100000 in
set_option maxHeartbeats 4000000 in
theorem sp_mor (h : F 29 = some A_xref01_R_Or) (h27 : F 27 = some A_xref01_New) {n m : Nat} (hn : n ≤ 40) (hm : m ≤ 40) (A B : Mx) : pureS F 29 [.ptr (matC n A), .ptr (matC m B)] = some (.ptr (matC (max n m) (opM (fun x y => x || y) A B (max n m)))) := by
  refine pure_of_thaw h (matC_flat _ _) ?_
  have hN : max n m ≤ 40 := by omega
  simp (disch := omega) only [A_xref01_R_Or, wp, Nat.reduceAdd, Nat.reduceMul, Nat.reduceSub, ml, maxI, thaw27 h27]
  generalize max n m = N at hN
  refine W_loop (fun q e g => ∃ a, q = N - a ∧ a ≤ N ∧ e 0 = .ptr (matC n A) ∧ e 1 = .ptr (matC m B) ∧ e 5 = .mp 10 0 ∧ e 6 = .i .i64 a ∧ g.hp 10 = some (.cells (matC N (stM (fun x y => x || y) A B N a 0)) false) ∧ 10 < g.nx) N ?_ ?_
  · refine ⟨0, rfl, Nat.zero_le _, ?_⟩
    simp (disch := omega) only [wp, Nat.reduceAdd, Nat.reduceMul, Nat.reduceSub, stM_0]
    exact ⟨rfl, by first | omega | (dsimp only; omega)⟩
  · rintro q e g ⟨a, rfl, ha, h0, h1, h5, h6, hg, hnx⟩
    by_cases ha' : a < N
    · have ha1 : (a : Int) < N := by omega
      have hwa := succ_wrap (k := a) (by omega)
      simp (disch := omega) only [wp, Nat.reduceAdd, Nat.reduceMul, Nat.reduceSub, ml, h0, h1, h5, h6, hg, ha1]
      refine W_loop (fun q e g => ∃ b, q = N - b ∧ b ≤ N ∧ e 0 = .ptr (matC n A) ∧ e 1 = .ptr (matC m B) ∧ e 5 = .mp 10 0 ∧ e 6 = .i .i64 a ∧ e 7 = .i .i64 b ∧ g.hp 10 = some (.cells (matC N (stM (fun x y => x || y) A B N a b)) false) ∧ 10 < g.nx) N ?_ ?_
      · refine ⟨0, rfl, Nat.zero_le _, ?_⟩
        simp (disch := omega) only [wp, Nat.reduceAdd, Nat.reduceMul, Nat.reduceSub, h0, h1, h5, h6, hg]
        exact ⟨rfl, by first | omega | (dsimp only; omega)⟩
      · rintro q e g ⟨b, rfl, hb, h0, h1, h5, h6, h7, hg, hnx⟩
        by_cases hb' : b < N
        · have hb1 : (b : Int) < N := by omega
          have hwb := succ_wrap (k := b) (by omega)
          have hs := stM_succ (fun x y => x || y) A B N a b
          cases hA : A a b with
          | true =>
            simp only [hA, Bool.true_or, Bool.true_and] at hs
            simp (disch := omega) only [wp, Nat.reduceAdd, Nat.reduceMul, Nat.reduceSub, ml, h0, h1, h5, h6, h7, hg, hb1, hA, hwb, hs]
            exact ⟨N - (b + 1), by omega, b + 1, rfl, by omega, rfl, rfl, by first | omega | (dsimp only; omega)⟩
          | false =>
            simp only [hA, Bool.false_or, Bool.false_and] at hs
            simp (disch := omega) only [wp, Nat.reduceAdd, Nat.reduceMul, Nat.reduceSub, ml, h0, h1, h5, h6, h7, hg, hb1, hA, hwb, hs]
            exact ⟨N - (b + 1), by omega, b + 1, rfl, by omega, rfl, rfl, by first | omega | (dsimp only; omega)⟩
        · obtain rfl : b = N := by omega
          have hb1 : ¬ ((b : Int) < b) := by omega
          rw [stM_row] at hg
          simp (disch := omega) only [wp, Nat.reduceAdd, Nat.reduceMul, Nat.reduceSub, ml, h0, h1, h5, h6, h7, hg, hb1, hwa]
          exact ⟨b - (a + 1), by omega, a + 1, rfl, by omega, rfl, rfl, by first | omega | (dsimp only; omega)⟩
    · obtain rfl : a = N := by omega
      have ha1 : ¬ ((a : Int) < a) := by omega
      simp (disch := omega) only [wp, Nat.reduceAdd, Nat.reduceMul, Nat.reduceSub, ml, h0, h1, h5, h6, hg, ha1]
      exact ⟨10, rfl, hg⟩
set_option maxRecDepth 100000 in
set_option maxHeartbeats 4000000 in
theorem sp_mand (h : F 30 = some A_xref01_R_And) (h27 : F 27 = some A_xref01_New) {n m : Nat} (hn : n ≤ 40) (hm : m ≤ 40) (A B : Mx) : pureS F 30 [.ptr (matC n A), .ptr (matC m B)] = some (.ptr (matC (max n m) (opM (fun x y => x && y) A B (max n m)))) := by
  refine pure_of_thaw h (matC_flat _ _) ?_
  have hN : max n m ≤ 40 := by omega
  simp (disch := omega) only [A_xref01_R_And, wp, Nat.reduceAdd, Nat.reduceMul, Nat.reduceSub, ml, maxI, thaw27 h27]
  generalize max n m = N at hN
  refine W_loop (fun q e g => ∃ a, q = N - a ∧ a ≤ N ∧ e 0 = .ptr (matC n A) ∧ e 1 = .ptr (matC m B) ∧ e 5 = .mp 10 0 ∧ e 6 = .i .i64 a ∧ g.hp 10 = some (.cells (matC N (stM (fun x y => x && y) A B N a 0)) false) ∧ 10 < g.nx) N ?_ ?_
  · refine ⟨0, rfl, Nat.zero_le _, ?_⟩
    simp (disch := omega) only [wp, Nat.reduceAdd, Nat.reduceMul, Nat.reduceSub, stM_0]
    exact ⟨rfl, by first | omega | (dsimp only; omega)⟩
  · rintro q e g ⟨a, rfl, ha, h0, h1, h5, h6, hg, hnx⟩
    by_cases ha' : a < N
    · have ha1 : (a : Int) < N := by omega
      have hwa := succ_wrap (k := a) (by omega)
      simp (disch := omega) only [wp, Nat.reduceAdd, Nat.reduceMul, Nat.reduceSub, ml, h0, h1, h5, h6, hg, ha1]
      refine W_loop (fun q e g => ∃ b, q = N - b ∧ b ≤ N ∧ e 0 = .ptr (matC n A) ∧ e 1 = .ptr (matC m B) ∧ e 5 = .mp 10 0 ∧ e 6 = .i .i64 a ∧ e 7 = .i .i64 b ∧ g.hp 10 = some (.cells (matC N (stM (fun x y => x && y) A B N a b)) false) ∧ 10 < g.nx) N ?_ ?_
      · refine ⟨0, rfl, Nat.zero_le _, ?_⟩
        simp (disch := omega) only [wp, Nat.reduceAdd, Nat.reduceMul, Nat.reduceSub, h0, h1, h5, h6, hg]
        exact ⟨rfl, by first | omega | (dsimp only; omega)⟩
      · rintro q e g ⟨b, rfl, hb, h0, h1, h5, h6, h7, hg, hnx⟩
        by_cases hb' : b < N
        · have hb1 : (b : Int) < N := by omega
          have hwb := succ_wrap (k := b) (by omega)
          have hs := stM_succ (fun x y => x && y) A B N a b
          cases hA : A a b with
          | true =>
            simp only [hA, Bool.true_or, Bool.true_and] at hs
            simp (disch := omega) only [wp, Nat.reduceAdd, Nat.reduceMul, Nat.reduceSub, ml, h0, h1, h5, h6, h7, hg, hb1, hA, hwb, hs]
            exact ⟨N - (b + 1), by omega, b + 1, rfl, by omega, rfl, rfl, by first | omega | (dsimp only; omega)⟩
          | false =>
            simp only [hA, Bool.false_or, Bool.false_and] at hs
            simp (disch := omega) only [wp, Nat.reduceAdd, Nat.reduceMul, Nat.reduceSub, ml, h0, h1, h5, h6, h7, hg, hb1, hA, hwb, hs]
            exact ⟨N - (b + 1), by omega, b + 1, rfl, by omega, rfl, rfl, by first | omega | (dsimp only; omega)⟩
        · obtain rfl : b = N := by omega
          have hb1 : ¬ ((b : Int) < b) := by omega
          rw [stM_row] at hg
          simp (disch := omega) only [wp, Nat.reduceAdd, Nat.reduceMul, Nat.reduceSub, ml, h0, h1, h5, h6, h7, hg, hb1, hwa]
          exact ⟨b - (a + 1), by omega, a + 1, rfl, by omega, rfl, rfl, by first | omega | (dsimp only; omega)⟩
    · obtain rfl : a = N := by omega
      have ha1 : ¬ ((a : Int) < a) := by omega
      simp (disch := omega) only [wp, Nat.reduceAdd, Nat.reduceMul, Nat.reduceSub, ml, h0, h1, h5, h6, hg, ha1]
      exact ⟨10, rfl, hg⟩
end Go.Ab
end
section
set_option linter.unusedVariables false
set_option linter.unusedSimpArgs false
namespace Go.Ab
variable {F : Funs}
def t1M (A B : Mx) (a b c : Nat) (T : Mx) : Mx := fun i j => if i = a ∧ j < c then T i j || B b j else T i j
def t2M (A B : Mx) (N a : Nat) (T : Mx) (b : Nat) : Mx := if A a b then t1M A B a b N T else T
def t3M (A B : Mx) (N a k : Nat) (T : Mx) : Mx := (List.range k).foldl (t2M A B N a) T
def thM (A B : Mx) (N k : Nat) : Mx := (List.range k).foldl (fun T a => t3M A B N a N T) (fun _ _ => false)
theorem t3M_succ (A B N a k T) : t3M A B N a (k + 1) T = t2M A B N a (t3M A B N a k T) k := by simp [t3M, List.range_succ]
theorem thM_succ (A B N k) : thM A B N (k + 1) = t3M A B N k N (thM A B N k) := by simp [thM, List.range_succ]
theorem t1M_succ (A B a b c T) : upd2 (t1M A B a b c T) a c (T a c || B b c) = t1M A B a b (c + 1) T := by
  funext i j
  unfold upd2 t1M
  by_cases h : i = a ∧ j = c
  · obtain ⟨rfl, rfl⟩ := h; rw [if_pos ⟨rfl, rfl⟩, if_pos ⟨rfl, by omega⟩]
  · rw [if_neg h]
    by_cases h2 : i = a ∧ j < c
    · rw [if_pos h2, if_pos (by omega)]
    · rw [if_neg h2, if_neg (by omega)]
theorem t1M_at (A B a b c T) : t1M A B a b c T a c = T a c := by unfold t1M; rw [if_neg (by omega)]
theorem t1M_0 (A B a b T) : t1M A B a b 0 T = T := by funext i j; unfold t1M; rw [if_neg (by omega)]
set_option maxRecDepth 100000 in
set_option maxHeartbeats 4000000 in
theorem sp_mthen (h : F 32 = some A_xref01_R_Then) (h27 : F 27 = some A_xref01_New) {n m : Nat} (hn : n ≤ 40) (hm : m ≤ 40) (A B : Mx) : pureS F 32 [.ptr (matC n A), .ptr (matC m B)] = some (.ptr (matC (max n m) (thM A B (max n m) (max n m)))) := by
  refine pure_of_thaw h (matC_flat _ _) ?_
  have hN : max n m ≤ 40 := by omega
  simp (disch := omega) only [A_xref01_R_Then, wp, Nat.reduceAdd, Nat.reduceMul, Nat.reduceSub, ml, maxI, thaw27 h27]
  generalize max n m = N at hN
  refine W_loop (fun q e g => ∃ a, q = N - a ∧ a ≤ N ∧ e 0 = .ptr (matC n A) ∧ e 1 = .ptr (matC m B) ∧ e 5 = .mp 10 0 ∧ e 6 = .i .i64 a ∧ g.hp 10 = some (.cells (matC N (thM A B N a)) false) ∧ 10 < g.nx) N ?_ ?_
  · refine ⟨0, rfl, Nat.zero_le _, ?_⟩
    simp (disch := omega) only [wp, Nat.reduceAdd, Nat.reduceMul, Nat.reduceSub]
    exact ⟨rfl, rfl, by first | omega | (dsimp only; omega)⟩
  · rintro q e g ⟨a, rfl, ha, h0, h1, h5, h6, hg, hnx⟩
    by_cases ha' : a < N
    · have ha1 : (a : Int) < N := by omega
      have hwa := succ_wrap (k := a) (by omega)
      simp (disch := omega) only [wp, Nat.reduceAdd, Nat.reduceMul, Nat.reduceSub, ml, h0, h1, h5, h6, hg, ha1]
      refine W_loop (fun q e g => ∃ b, q = N - b ∧ b ≤ N ∧ e 0 = .ptr (matC n A) ∧ e 1 = .ptr (matC m B) ∧ e 5 = .mp 10 0 ∧ e 6 = .i .i64 a ∧ e 7 = .i .i64 b ∧ g.hp 10 = some (.cells (matC N (t3M A B N a b (thM A B N a))) false) ∧ 10 < g.nx) N ?_ ?_
      · refine ⟨0, rfl, Nat.zero_le _, ?_⟩
        simp (disch := omega) only [wp, Nat.reduceAdd, Nat.reduceMul, Nat.reduceSub, h0, h1, h5, h6, hg]
        exact ⟨rfl, rfl, by first | omega | (dsimp only; omega)⟩
      · rintro q e g ⟨b, rfl, hb, h0, h1, h5, h6, h7, hg, hnx⟩
        by_cases hb' : b < N
        · have hb1 : (b : Int) < N := by omega
          have hwb := succ_wrap (k := b) (by omega)
          have hs := t3M_succ A B N a b (thM A B N a)
          generalize t3M A B N a b (thM A B N a) = T at hg hs
          cases hA : A a b with
          | true =>
            rw [t2M, if_pos hA] at hs
            simp (disch := omega) only [wp, Nat.reduceAdd, Nat.reduceMul, Nat.reduceSub, ml, h0, h1, h5, h6, h7, hg, hb1]
            refine W_loop (fun q e g => ∃ c, q = N - c ∧ c ≤ N ∧ e 0 = .ptr (matC n A) ∧ e 1 = .ptr (matC m B) ∧ e 5 = .mp 10 0 ∧ e 6 = .i .i64 a ∧ e 7 = .i .i64 b ∧ e 8 = .i .i64 c ∧ g.hp 10 = some (.cells (matC N (t1M A B a b c T)) false) ∧ 10 < g.nx) N ?_ ?_
            · refine ⟨0, rfl, Nat.zero_le _, ?_⟩
              simp (disch := omega) only [wp, Nat.reduceAdd, Nat.reduceMul, Nat.reduceSub, h0, h1, h5, h6, h7, hg, t1M_0]
              exact ⟨rfl, by first | omega | (dsimp only; omega)⟩
            · rintro q e g ⟨c, rfl, hc, h0, h1, h5, h6, h7, h8, hg, hnx⟩
              by_cases hc' : c < N
              · have hc1 : (c : Int) < N := by omega
                have hwc := succ_wrap (k := c) (by omega)
                have hs1 := t1M_succ A B a b c T
                have hat := t1M_at A B a b c T
                cases hT : T a c with
                | true =>
                  rw [hT] at hat hs1
                  simp only [Bool.true_or] at hs1
                  simp (disch := omega) only [wp, Nat.reduceAdd, Nat.reduceMul, Nat.reduceSub, ml, h0, h1, h5, h6, h7, h8, hg, hc1, hA, hat, hwc, hs1]
                  exact ⟨N - (c + 1), by omega, c + 1, rfl, by omega, rfl, rfl, by first | omega | (dsimp only; omega)⟩
                | false =>
                  rw [hT] at hat hs1
                  simp only [Bool.false_or] at hs1
                  simp (disch := omega) only [wp, Nat.reduceAdd, Nat.reduceMul, Nat.reduceSub, ml, h0, h1, h5, h6, h7, h8, hg, hc1, hA, hat, hwc, hs1]
                  exact ⟨N - (c + 1), by omega, c + 1, rfl, by omega, rfl, rfl, by first | omega | (dsimp only; omega)⟩
              · obtain rfl : c = N := by omega
                have hc1 : ¬ ((c : Int) < c) := by omega
                rw [← hs] at hg
                simp (disch := omega) only [wp, Nat.reduceAdd, Nat.reduceMul, Nat.reduceSub, ml, h0, h1, h5, h6, h7, h8, hg, hc1, hwb]
                exact ⟨c - (b + 1), by omega, b + 1, rfl, by omega, rfl, rfl, by first | omega | (dsimp only; omega)⟩
          | false =>
            rw [t2M, if_neg (by rw [hA]; simp)] at hs
            have h0N : (0 : Int) < N := by omega
            have hA0 : part (((matR A).drop (a * 40)).drop (b * 1)) 0 none = some (.b false) := by rw [matR_at (by omega), hA]
            simp (disch := omega) only [wp, Nat.reduceAdd, Nat.reduceMul, Nat.reduceSub, ml, h0, h1, h5, h6, h7, hg, hb1]
            refine W_loop (fun q e g => e 0 = .ptr (matC n A) ∧ e 1 = .ptr (matC m B) ∧ e 5 = .mp 10 0 ∧ e 6 = .i .i64 a ∧ e 7 = .i .i64 b ∧ e 8 = .i .i64 0 ∧ g.hp 10 = some (.cells (matC N T) false) ∧ 10 < g.nx) 0 ?_ ?_
            · simp (disch := omega) only [wp, Nat.reduceAdd, Nat.reduceMul, Nat.reduceSub, h0, h1, h5, h6, h7, hg]
              first | omega | (dsimp only; omega)
            · rintro q e g ⟨h0, h1, h5, h6, h7, h8, hg, hnx⟩
              rw [← hs] at hg
              simp (disch := omega) only [wp, Nat.reduceAdd, Nat.reduceMul, Nat.reduceSub, ml, h0, h1, h5, h6, h7, h8, hg, h0N, hA, hwb]
              exact ⟨N - (b + 1), by omega, b + 1, rfl, by omega, rfl, rfl, by first | omega | (dsimp only; omega)⟩
        · obtain rfl : b = N := by omega
          have hb1 : ¬ ((b : Int) < b) := by omega
          rw [← thM_succ] at hg
          simp (disch := omega) only [wp, Nat.reduceAdd, Nat.reduceMul, Nat.reduceSub, ml, h0, h1, h5, h6, h7, hg, hb1, hwa]
          exact ⟨b - (a + 1), by omega, a + 1, rfl, by omega, rfl, rfl, by first | omega | (dsimp only; omega)⟩
    · obtain rfl : a = N := by omega
      have ha1 : ¬ ((a : Int) < a) := by omega
      simp (disch := omega) only [wp, Nat.reduceAdd, Nat.reduceMul, Nat.reduceSub, ml, h0, h1, h5, h6, hg, ha1]
      exact ⟨10, rfl, hg⟩
def mbM (A : Mx) (k : Nat) : Mx := fun i j => A i j || decide (i < k ∧ i = j)
theorem mbM_succ (A k) : upd2 (mbM A k) k k true = mbM A (k + 1) := by
  funext i j
  unfold upd2 mbM
  by_cases h : i = k ∧ j = k
  · obtain ⟨rfl, rfl⟩ := h; rw [if_pos ⟨rfl, rfl⟩]; simp
  · rw [if_neg h]
    congr 1
    rw [decide_eq_decide]; omega
theorem mbM_0 (A) : mbM A 0 = A := by funext i j; simp [mbM]
set_option maxRecDepth 100000 in
set_option maxHeartbeats 4000000 in
theorem sp_mmaybe (h : F 35 = some A_xref01_R_Maybe) (h27 : F 27 = some A_xref01_New) {n : Nat} (hn : n ≤ 40) (A : Mx) : pureS F 35 [.ptr (matC n A)] = some (.ptr (matC n (mbM A n))) := by
  refine pure_of_thaw h (matC_flat _ _) ?_
  simp (disch := omega) only [A_xref01_R_Maybe, wp, Nat.reduceAdd, Nat.reduceMul, Nat.reduceSub, ml, thaw27 h27]
  refine W_loop (fun q e g => ∃ a, q = n - a ∧ a ≤ n ∧ e 3 = .mp 5 0 ∧ e 4 = .i .i64 a ∧ g.hp 5 = some (.cells (matC n (mbM A a)) false) ∧ 5 < g.nx) n ?_ ?_
  · refine ⟨0, rfl, Nat.zero_le _, ?_⟩
    simp (disch := omega) only [wp, Nat.reduceAdd, Nat.reduceMul, Nat.reduceSub, mbM_0]
    exact ⟨rfl, by first | omega | (dsimp only; omega)⟩
  · rintro q e g ⟨a, rfl, ha, h3, h4, hg, hnx⟩
    by_cases ha' : a < n
    · have ha1 : (a : Int) < n := by omega
      have hwa := succ_wrap (k := a) (by omega)
      have hs := mbM_succ A a
      simp (disch := omega) only [wp, Nat.reduceAdd, Nat.reduceMul, Nat.reduceSub, ml, h3, h4, hg, ha1, hwa, hs]
      exact ⟨n - (a + 1), by omega, a + 1, rfl, by omega, rfl, rfl, by first | omega | (dsimp only; omega)⟩
    · obtain rfl : a = n := by omega
      have ha1 : ¬ ((a : Int) < a) := by omega
      simp (disch := omega) only [wp, Nat.reduceAdd, Nat.reduceMul, Nat.reduceSub, ml, h3, h4, hg, ha1]
      exact ⟨5, rfl, hg⟩
end Go.Ab
end
section
set_option linter.unusedVariables false
set_option linter.unusedSimpArgs false
namespace Go.Ab
variable {F : Funs}
def p1M (k a c : Nat) (T : Mx) : Mx := fun i j => if i = a ∧ j < c then T i j || T k j else T i j
def p2M (N k : Nat) (T : Mx) (a : Nat) : Mx := if T a k then p1M k a N T else T
def p3M (N k m : Nat) (T : Mx) : Mx := (List.range m).foldl (p2M N k) T
def plM (N : Nat) (A : Mx) (m : Nat) : Mx := (List.range m).foldl (fun T k => p3M N k N T) A
theorem p3M_succ (N k m T) : p3M N k (m + 1) T = p2M N k (p3M N k m T) m := by simp [p3M, List.range_succ]
theorem plM_succ (N A m) : plM N A (m + 1) = p3M N m N (plM N A m) := by simp [plM, List.range_succ]
theorem p1M_succ (k a c T) : upd2 (p1M k a c T) a c (T a c || T k c) = p1M k a (c + 1) T := by
  funext i j
  unfold upd2 p1M
  by_cases h : i = a ∧ j = c
  · obtain ⟨rfl, rfl⟩ := h; rw [if_pos ⟨rfl, rfl⟩, if_pos ⟨rfl, by omega⟩]
  · rw [if_neg h]
    by_cases h2 : i = a ∧ j < c
    · rw [if_pos h2, if_pos (by omega)]
    · rw [if_neg h2, if_neg (by omega)]
theorem p1M_at (k a c T) : p1M k a c T a c = T a c := by unfold p1M; rw [if_neg (by omega)]
theorem p1M_k (k a c T) : p1M k a c T k c = T k c := by unfold p1M; rw [if_neg (by omega)]
theorem p1M_cond {k a c T} (h : T a k = true) : p1M k a c T a k = true := by unfold p1M; split <;> simp [h]
theorem p1M_0 (k a T) : p1M k a 0 T = T := by funext i j; unfold p1M; rw [if_neg (by omega)]
set_option maxRecDepth 100000 in
set_option maxHeartbeats 4000000 in
theorem sp_mplus (h : F 34 = some A_xref01_R_Plus) (h27 : F 27 = some A_xref01_New) {N : Nat} (hN : N ≤ 40) (A : Mx) : pureS F 34 [.ptr (matC N A)] = some (.ptr (matC N (plM N A N))) := by
  refine pure_of_thaw h (matC_flat _ _) ?_
  simp (disch := omega) only [A_xref01_R_Plus, wp, Nat.reduceAdd, Nat.reduceMul, Nat.reduceSub, ml, thaw27 h27]
  refine W_loop (fun q e g => ∃ k, q = N - k ∧ k ≤ N ∧ e 3 = .mp 5 0 ∧ e 4 = .i .i64 k ∧ g.hp 5 = some (.cells (matC N (plM N A k)) false) ∧ 5 < g.nx) N ?_ ?_
  · refine ⟨0, rfl, Nat.zero_le _, ?_⟩
    simp (disch := omega) only [wp, Nat.reduceAdd, Nat.reduceMul, Nat.reduceSub]
    exact ⟨rfl, rfl, by first | omega | (dsimp only; omega)⟩
  · rintro q e g ⟨k, rfl, hk, h3, h4, hg, hnx⟩
    by_cases hk' : k < N
    · have hk1 : (k : Int) < N := by omega
      have hwk := succ_wrap (k := k) (by omega)
      simp (disch := omega) only [wp, Nat.reduceAdd, Nat.reduceMul, Nat.reduceSub, ml, h3, h4, hg, hk1]
      refine W_loop (fun q e g => ∃ a, q = N - a ∧ a ≤ N ∧ e 3 = .mp 5 0 ∧ e 4 = .i .i64 k ∧ e 5 = .i .i64 a ∧ g.hp 5 = some (.cells (matC N (p3M N k a (plM N A k))) false) ∧ 5 < g.nx) N ?_ ?_
      · refine ⟨0, rfl, Nat.zero_le _, ?_⟩
        simp (disch := omega) only [wp, Nat.reduceAdd, Nat.reduceMul, Nat.reduceSub, h3, h4, hg]
        exact ⟨rfl, rfl, by first | omega | (dsimp only; omega)⟩
      · rintro q e g ⟨a, rfl, ha, h3, h4, h5, hg, hnx⟩
        by_cases ha' : a < N
        · have ha1 : (a : Int) < N := by omega
          have hwa := succ_wrap (k := a) (by omega)
          have hs := p3M_succ N k a (plM N A k)
          generalize p3M N k a (plM N A k) = T at hg hs
          cases hA : T a k with
          | true =>
            rw [p2M, if_pos hA] at hs
            simp (disch := omega) only [wp, Nat.reduceAdd, Nat.reduceMul, Nat.reduceSub, ml, h3, h4, h5, hg, ha1]
            refine W_loop (fun q e g => ∃ c, q = N - c ∧ c ≤ N ∧ e 3 = .mp 5 0 ∧ e 4 = .i .i64 k ∧ e 5 = .i .i64 a ∧ e 6 = .i .i64 c ∧ g.hp 5 = some (.cells (matC N (p1M k a c T)) false) ∧ 5 < g.nx) N ?_ ?_
            · refine ⟨0, rfl, Nat.zero_le _, ?_⟩
              simp (disch := omega) only [wp, Nat.reduceAdd, Nat.reduceMul, Nat.reduceSub, h3, h4, h5, hg, p1M_0]
              exact ⟨rfl, by first | omega | (dsimp only; omega)⟩
            · rintro q e g ⟨c, rfl, hc, h3, h4, h5, h6, hg, hnx⟩
              by_cases hc' : c < N
              · have hc1 : (c : Int) < N := by omega
                have hwc := succ_wrap (k := c) (by omega)
                have hs1 := p1M_succ k a c T
                have hat := p1M_at k a c T
                have hkc := p1M_k k a c T
                have hco := p1M_cond (c := c) hA
                generalize p1M k a c T = M at hg hs1 hat hkc hco
                cases hT : T a c with
                | true =>
                  rw [hT] at hat hs1
                  simp only [Bool.true_or] at hs1
                  simp (disch := omega) only [wp, Nat.reduceAdd, Nat.reduceMul, Nat.reduceSub, ml, h3, h4, h5, h6, hg, hc1, hco, hat, hwc, hs1]
                  exact ⟨N - (c + 1), by omega, c + 1, rfl, by omega, rfl, rfl, by first | omega | (dsimp only; omega)⟩
                | false =>
                  rw [hT] at hat hs1
                  simp only [Bool.false_or] at hs1
                  simp (disch := omega) only [wp, Nat.reduceAdd, Nat.reduceMul, Nat.reduceSub, ml, h3, h4, h5, h6, hg, hc1, hco, hat, hkc, hwc, hs1]
                  exact ⟨N - (c + 1), by omega, c + 1, rfl, by omega, rfl, rfl, by first | omega | (dsimp only; omega)⟩
              · obtain rfl : c = N := by omega
                have hc1 : ¬ ((c : Int) < c) := by omega
                rw [← hs] at hg
                simp (disch := omega) only [wp, Nat.reduceAdd, Nat.reduceMul, Nat.reduceSub, ml, h3, h4, h5, h6, hg, hc1, hwa]
                exact ⟨c - (a + 1), by omega, a + 1, rfl, by omega, rfl, rfl, by first | omega | (dsimp only; omega)⟩
          | false =>
            rw [p2M, if_neg (by rw [hA]; simp)] at hs
            have h0N : (0 : Int) < N := by omega
            simp (disch := omega) only [wp, Nat.reduceAdd, Nat.reduceMul, Nat.reduceSub, ml, h3, h4, h5, hg, ha1]
            refine W_loop (fun q e g => e 3 = .mp 5 0 ∧ e 4 = .i .i64 k ∧ e 5 = .i .i64 a ∧ e 6 = .i .i64 0 ∧ g.hp 5 = some (.cells (matC N T) false) ∧ 5 < g.nx) 0 ?_ ?_
            · simp (disch := omega) only [wp, Nat.reduceAdd, Nat.reduceMul, Nat.reduceSub, h3, h4, h5, hg]
              first | omega | (dsimp only; omega)
            · rintro q e g ⟨h3, h4, h5, h6, hg, hnx⟩
              simp (disch := omega) only [wp, Nat.reduceAdd, Nat.reduceMul, Nat.reduceSub, ml, h3, h4, h5, h6, hg, h0N, hA, hwa]
              exact ⟨N - (a + 1), by omega, a + 1, rfl, by omega, rfl, by rw [hs], by first | omega | (dsimp only; omega)⟩
        · obtain rfl : a = N := by omega
          have ha1 : ¬ ((a : Int) < a) := by omega
          rw [← plM_succ] at hg
          simp (disch := omega) only [wp, Nat.reduceAdd, Nat.reduceMul, Nat.reduceSub, ml, h3, h4, h5, hg, ha1, hwk]
          exact ⟨a - (k + 1), by omega, k + 1, rfl, by omega, rfl, rfl, by first | omega | (dsimp only; omega)⟩
    · obtain rfl : k = N := by omega
      have hk1 : ¬ ((k : Int) < k) := by omega
      simp (disch := omega) only [wp, Nat.reduceAdd, Nat.reduceMul, Nat.reduceSub, ml, h3, h4, hg, hk1]
      exact ⟨5, rfl, hg⟩
end Go.Ab
end
section
set_option linter.unusedVariables false
set_option linter.unusedSimpArgs false
namespace Go.Ab
variable {F : Funs}
def Eqv (A : Mx) (R : Rw) : Prop := ∀ a b, A a b = hb R a b
theorem upd2_get (M : Mx) (a b : Nat) (x : Bool) (i j : Nat) : upd2 M a b x i j = if i = a ∧ j = b then x else M i j := rfl
theorem eqv_new {n : Nat} (hn : n ≤ 40) (l : List (Int × Int)) : Eqv (newM n l) (newR n l) := by
  have key : ∀ (l : List (Int × Int)) (M : Mx) (R : Rw), Eqv M R → Eqv (l.foldl (addM n) M) (l.foldl (addR n) R) := by
    intro l
    induction l with
    | nil => intro M R h; exact h
    | cons p l ih =>
      intro M R h
      refine ih _ _ fun a b => ?_
      rw [hb_add hn]
      unfold addM
      by_cases hi : inR n p = true
      · rw [if_pos hi, upd2_get, hi]
        have hi' := hi
        simp only [inR, decide_eq_true_eq] at hi'
        by_cases h2 : a = p.1.toNat ∧ b = p.2.toNat
        · rw [if_pos h2]
          have : p = ((a : Int), (b : Int)) := by
            obtain ⟨x, y⟩ := p
            simp only at h2 hi'
            simp only [Prod.mk.injEq]; omega
          simp [this]
        · rw [if_neg h2, h a b]
          have : ¬ p = ((a : Int), (b : Int)) := by
            rintro rfl
            exact h2 ⟨by simp, by simp⟩
          simp [this]
      · rw [if_neg hi, h a b]
        simp only [Bool.not_eq_true] at hi
        simp [hi]
  exact key l _ _ fun a b => by rw [hb_zero]
def Same (n : Nat) (M : Mx) (R : Rw) : Prop := ∀ a b : Nat, a < n → b < n → M a b = has n R a b
theorem same_of {n : Nat} {M : Mx} {R : Rw} (h : ∀ a b, a < n → b < n → M a b = hb R a b) : Same n M R := fun a b ha hb' => by
  rw [h a b ha hb', has_N]
  simp [hN, ha, hb']
theorem opM_get (φ : Bool → Bool → Bool) (A B : Mx) (N a b : Nat) (ha : a < N) (hb' : b < N) : opM φ A B N a b = φ (A a b) (B a b) := by
  unfold opM stM; rw [if_pos (.inl ⟨ha, hb'⟩)]
theorem t3M_get (A B : Mx) (N a k : Nat) (T : Mx) (i j : Nat) (hj : j < N) : t3M A B N a k T i j = (T i j || (decide (i = a) && (List.range k).any fun c => A a c && B c j)) := by
  induction k with
  | zero => simp [t3M]
  | succ k ih =>
    rw [t3M_succ, t2M, List.range_succ, List.any_append]
    cases hA : A a k with
    | true =>
      rw [if_pos rfl]
      unfold t1M
      by_cases hi : i = a
      · subst hi
        rw [if_pos ⟨rfl, hj⟩, ih]
        simp [hA, Bool.or_assoc]
      · rw [if_neg (fun h => hi h.1), ih]
        simp [hi]
    | false =>
      rw [if_neg (by simp), ih]
      simp [hA]
theorem thM_get (A B : Mx) (N k : Nat) (i j : Nat) (hj : j < N) : thM A B N k i j = (decide (i < k) && (List.range N).any fun c => A i c && B c j) := by
  induction k with
  | zero => simp [thM]
  | succ k ih =>
    rw [thM_succ, t3M_get _ _ _ _ _ _ _ _ hj, ih]
    by_cases hi : i = k
    · subst hi; simp
    · have : decide (i < k) = decide (i < k + 1) := by rw [decide_eq_decide]; omega
      rw [this]; simp [hi]
theorem Wf.mono {n m : Nat} (h : n ≤ m) {R : Rw} (hR : Wf n R) : Wf m R := fun a b hh => by obtain ⟨h1, h2⟩ := hR a b hh; omega
end Go.Ab
end
section
set_option linter.unusedVariables false
set_option linter.unusedSimpArgs false
namespace Go.Ab
variable {F : Funs}
def EqN (n : Nat) (A : Mx) (R : Rw) : Prop := Wf n R ∧ ∀ a b, a < n → b < n → A a b = hb R a b
theorem EqN.same {n A R} (h : EqN n A R) : Same n A R := same_of h.2
theorem EqN.new {n : Nat} (hn : n ≤ 40) (l : List (Int × Int)) : EqN n (newM n l) (newR n l) := ⟨wf_new hn _, fun a b _ _ => eqv_new hn l a b⟩
section
variable {n : Nat} {A B : Mx} {R S : Rw}
theorem EqN.or (h : EqN n A R) (k : EqN n B S) : EqN n (opM (fun x y => x || y) A B n) (orR R S) :=
  ⟨wf_or h.1 k.1, fun a b ha hb' => by rw [opM_get _ _ _ _ _ _ ha hb', h.2 a b ha hb', k.2 a b ha hb', hb_or]⟩
theorem EqN.and (h : EqN n A R) (k : EqN n B S) : EqN n (opM (fun x y => x && y) A B n) (andR R S) :=
  ⟨wf_and h.1, fun a b ha hb' => by rw [opM_get _ _ _ _ _ _ ha hb', h.2 a b ha hb', k.2 a b ha hb', hb_and]⟩
theorem EqN.then (h : EqN n A R) (k : EqN n B S) : EqN n (thM A B n n) (thenR n R S) :=
  ⟨wf_then h.1 k.1, fun a b ha hb' => by
    rw [thM_get _ _ _ _ _ _ hb', Bool.eq_iff_iff, hb_then h.1, decide_eq_true ha, Bool.true_and, List.any_eq_true]
    constructor
    · rintro ⟨c, hc, hh⟩
      rw [h.2 a c ha (List.mem_range.1 hc), k.2 c b (List.mem_range.1 hc) hb', Bool.and_eq_true] at hh
      exact ⟨c, hh.1, hh.2⟩
    · rintro ⟨c, h1, h2⟩
      have hc := (h.1 a c h1).2
      exact ⟨c, List.mem_range.2 hc, by rw [h.2 a c ha hc, k.2 c b hc hb', h1, h2]; rfl⟩⟩
end
end Go.Ab
end
section
namespace Go.Ab
def A_xref09_Rf : AFun := { res := [.t 2], body := (.seq (.reg false [{ dst := some 1, op := .box (.t 0) },
  { dst := some 2, op := .mv (.c (.nilp)) }])
 (.seq (.reg false [{ dst := some 5, op := .fa 1 (.t 1) },
  { dst := some 6, op := .ld none (.t 5) },
  { dst := some 7, op := .len (.t 6) },
  { dst := some 8, op := .call .thaw (.c (.fn 27 [] [])) [.t 7, .c (.sl [] 0 .rig)] },
  { dst := some 3, op := .mv (.t 8) }])
 (.seq (.seq (.reg false [{ dst := some 4, op := .mv (.c (.i .i64 0)) }])
 (.blk 0 (.loop (.seq (.seq (.reg false [{ dst := some 9, op := .mv (.t 4) },
  { dst := some 10, op := .fa 2 (.t 1) },
  { dst := some 11, op := .ld none (.t 10) },
  { dst := some 12, op := .len (.t 11) },
  { dst := some 13, op := .bin .lss (.t 9) (.t 12) }])
 (.cond (.t 13) .skip
 (.ext 0)))
 (.seq (.blk 1 (.seq (.reg false [{ dst := some 16, op := .fa 2 (.t 1) },
  { dst := some 17, op := .ld none (.t 16) },
  { dst := some 18, op := .mv (.t 4) },
  { dst := some 19, op := .ia 1 (.t 17) (.t 18) },
  { dst := some 20, op := .ld none (.t 19) },
  { dst := some 21, op := .bin .geq (.t 20) (.c (.i .i64 0)) }])
 (.cond (.t 21) (.reg true [{ dst := some 22, op := .mv (.t 3) },
  { dst := some 23, op := .fa 2 (.t 1) },
  { dst := some 24, op := .ld none (.t 23), pre := [] },
  { dst := some 25, op := .mv (.t 4) },
  { dst := some 26, op := .ia 1 (.t 24) (.t 25) },
  { dst := some 27, op := .ld none (.t 26), pre := [] },
  { dst := some 28, op := .mv (.t 4) },
  { dst := some 29, op := .nilck (.t 22) },
  { dst := some 30, op := .fa 1 (.t 29) },
  { dst := some 31, op := .iaa 40 40 (.t 30) (.t 27) },
  { dst := some 32, op := .iaa 40 1 (.t 31) (.t 28) },
  { dst := none, op := .st 1 (.t 32) (.c (.b true)), pre := [] }])
 .skip)))
 (.reg false [{ dst := some 14, op := .mv (.t 4) },
  { dst := some 15, op := .bin .add (.t 14) (.c (.i .i64 1)) },
  { dst := some 4, op := .mv (.t 15) }]))))))
 (.seq (.reg false [{ dst := some 33, op := .mv (.t 3) },
  { dst := some 2, op := .mv (.t 33) }])
 .ret)))) }
def A_xref09_Co : AFun := { res := [.t 2], body := (.seq (.reg false [{ dst := some 1, op := .box (.t 0) },
  { dst := some 2, op := .mv (.c (.nilp)) }])
 (.seq (.reg false [{ dst := some 7, op := .fa 1 (.t 1) },
  { dst := some 8, op := .ld none (.t 7) },
  { dst := some 9, op := .len (.t 8) },
  { dst := some 10, op := .call .thaw (.c (.fn 27 [] [])) [.t 9, .c (.sl [] 0 .rig)] },
  { dst := some 3, op := .mv (.t 10) }])
 (.seq (.seq (.reg false [{ dst := some 4, op := .mv (.c (.i .i64 0)) }])
 (.blk 0 (.loop (.seq (.seq (.reg false [{ dst := some 11, op := .mv (.t 4) },
  { dst := some 12, op := .fa 3 (.t 1) },
  { dst := some 13, op := .ld none (.t 12) },
  { dst := some 14, op := .len (.t 13) },
  { dst := some 15, op := .bin .lss (.t 11) (.t 14) }])
 (.cond (.t 15) .skip
 (.ext 0)))
 (.seq (.blk 1 (.seq (.reg false [{ dst := some 5, op := .mv (.c (.i .i64 0)) }])
 (.blk 2 (.loop (.seq (.seq (.reg false [{ dst := some 18, op := .mv (.t 5) },
  { dst := some 19, op := .fa 3 (.t 1) },
  { dst := some 20, op := .ld none (.t 19) },
  { dst := some 21, op := .mv (.t 4) },
  { dst := some 22, op := .ia 1 (.t 20) (.t 21) },
  { dst := some 23, op := .ld none (.t 22) },
  { dst := some 24, op := .len (.t 23) },
  { dst := some 25, op := .bin .lss (.t 18) (.t 24) }])
 (.cond (.t 25) .skip
 (.ext 2)))
 (.seq (.blk 3 (.seq (.reg false [{ dst := some 28, op := .mv (.t 5) },
  { dst := some 29, op := .bin .add (.t 28) (.c (.i .i64 1)) },
  { dst := some 6, op := .mv (.t 29) }])
 (.blk 4 (.loop (.seq (.seq (.reg false [{ dst := some 30, op := .mv (.t 6) },
  { dst := some 31, op := .fa 3 (.t 1) },
  { dst := some 32, op := .ld none (.t 31) },
  { dst := some 33, op := .mv (.t 4) },
  { dst := some 34, op := .ia 1 (.t 32) (.t 33) },
  { dst := some 35, op := .ld none (.t 34) },
  { dst := some 36, op := .len (.t 35) },
  { dst := some 37, op := .bin .lss (.t 30) (.t 36) }])
 (.cond (.t 37) .skip
 (.ext 4)))
 (.seq (.blk 5 (.reg true [{ dst := some 40, op := .mv (.t 3) },
  { dst := some 41, op := .fa 3 (.t 1) },
  { dst := some 42, op := .ld none (.t 41), pre := [] },
  { dst := some 43, op := .mv (.t 4) },
  { dst := some 44, op := .ia 1 (.t 42) (.t 43) },
  { dst := some 45, op := .ld none (.t 44), pre := [] },
  { dst := some 46, op := .mv (.t 5) },
  { dst := some 47, op := .ia 1 (.t 45) (.t 46) },
  { dst := some 48, op := .ld none (.t 47), pre := [] },
  { dst := some 49, op := .fa 3 (.t 1) },
  { dst := some 50, op := .ld none (.t 49), pre := [] },
  { dst := some 51, op := .mv (.t 4) },
  { dst := some 52, op := .ia 1 (.t 50) (.t 51) },
  { dst := some 53, op := .ld none (.t 52), pre := [] },
  { dst := some 54, op := .mv (.t 6) },
  { dst := some 55, op := .ia 1 (.t 53) (.t 54) },
  { dst := some 56, op := .ld none (.t 55), pre := [] },
  { dst := some 57, op := .nilck (.t 40) },
  { dst := some 58, op := .fa 1 (.t 57) },
  { dst := some 59, op := .iaa 40 40 (.t 58) (.t 48) },
  { dst := some 60, op := .iaa 40 1 (.t 59) (.t 56) },
  { dst := none, op := .st 1 (.t 60) (.c (.b true)), pre := [] }]))
 (.reg false [{ dst := some 38, op := .mv (.t 6) },
  { dst := some 39, op := .bin .add (.t 38) (.c (.i .i64 1)) },
  { dst := some 6, op := .mv (.t 39) }])))))))
 (.reg false [{ dst := some 26, op := .mv (.t 5) },
  { dst := some 27, op := .bin .add (.t 26) (.c (.i .i64 1)) },
  { dst := some 5, op := .mv (.t 27) }])))))))
 (.reg false [{ dst := some 16, op := .mv (.t 4) },
  { dst := some 17, op := .bin .add (.t 16) (.c (.i .i64 1)) },
  { dst := some 4, op := .mv (.t 17) }]))))))
 (.seq (.reg false [{ dst := some 61, op := .mv (.t 3) },
  { dst := some 2, op := .mv (.t 61) }])
 .ret)))) }
def A_xref09_Fr : AFun := { res := [.t 2], body := (.seq (.reg false [{ dst := some 1, op := .box (.t 0) },
  { dst := some 2, op := .mv (.c (.nilp)) }])
 (.seq (.reg true [{ dst := some 3, op := .ld (some 8) (.t 1), pre := [] },
  { dst := some 4, op := .call .pure (.c (.fn 69 [] [])) [.t 3], pre := [] },
  { dst := some 5, op := .call .pure (.c (.fn 33 [] [])) [.t 4], pre := [] },
  { dst := some 6, op := .ld (some 8) (.t 1), pre := [] },
  { dst := some 7, op := .call .pure (.c (.fn 70 [] [])) [.t 6], pre := [] },
  { dst := some 8, op := .call .pure (.c (.fn 32 [] [])) [.t 5, .t 7], pre := [] },
  { dst := some 2, op := .mv (.t 8) }])
 .ret)) }
def A_xref09_Eco : AFun := { res := [.t 2], body := (.seq (.reg false [{ dst := some 1, op := .box (.t 0) },
  { dst := some 2, op := .mv (.c (.nilp)) }])
 (.seq (.reg false [{ dst := some 3, op := .ld (some 8) (.t 1) },
  { dst := some 4, op := .call .pure (.c (.fn 83 [] [])) [.t 3] },
  { dst := some 5, op := .call .pure (.c (.fn 34 [] [])) [.t 4] },
  { dst := some 2, op := .mv (.t 5) }])
 .ret)) }
def A_xref09_Loc : AFun := { res := [.t 2], body := (.seq (.reg false [{ dst := some 1, op := .box (.t 0) },
  { dst := some 2, op := .mv (.c (.nilp)) }])
 (.seq (.reg false [{ dst := some 8, op := .ld (some 8) (.t 1) },
  { dst := some 9, op := .call .thaw (.c (.fn 84 [] [])) [.t 8] },
  { dst := some 3, op := .mv (.t 9) }])
 (.seq (.seq (.reg false [{ dst := some 4, op := .mv (.c (.i .i64 0)) }])
 (.blk 0 (.loop (.seq (.seq (.reg false [{ dst := some 10, op := .mv (.t 4) },
  { dst := some 11, op := .mv (.t 3) },
  { dst := some 12, op := .nilck (.t 11) },
  { dst := some 13, op := .fa 0 (.t 12) },
  { dst := some 14, op := .ld none (.t 13) },
  { dst := some 15, op := .bin .lss (.t 10) (.t 14) }])
 (.cond (.t 15) .skip
 (.ext 0)))
 (.seq (.blk 1 (.seq (.reg false [{ dst := some 5, op := .mv (.c (.i .i64 0)) }])
 (.blk 2 (.loop (.seq (.seq (.reg false [{ dst := some 18, op := .mv (.t 5) },
  { dst := some 19, op := .mv (.t 3) },
  { dst := some 20, op := .nilck (.t 19) },
  { dst := some 21, op := .fa 0 (.t 20) },
  { dst := some 22, op := .ld none (.t 21) },
  { dst := some 23, op := .bin .lss (.t 18) (.t 22) }])
 (.cond (.t 23) .skip
 (.ext 2)))
 (.seq (.blk 3 (.seq (.reg true [{ dst := some 26, op := .fa 1 (.t 1) },
  { dst := some 27, op := .ld none (.t 26), pre := [] },
  { dst := some 28, op := .mv (.t 4) },
  { dst := some 29, op := .ia 6 (.t 27) (.t 28) },
  { dst := some 30, op := .ld (some 6) (.t 29), pre := [] },
  { dst := some 31, op := .fa 1 (.t 1) },
  { dst := some 32, op := .ld none (.t 31), pre := [] },
  { dst := some 33, op := .mv (.t 5) },
  { dst := some 34, op := .ia 6 (.t 32) (.t 33) },
  { dst := some 35, op := .ld (some 6) (.t 34), pre := [] },
  { dst := some 6, op := .new (List.replicate 5 (.i .i64 0) ++ [.b false]) },
  { dst := some 7, op := .new (List.replicate 5 (.i .i64 0) ++ [.b false]) },
  { dst := none, op := .stL 6 (.t 6) (.t 30), pre := [10] },
  { dst := none, op := .stL 6 (.t 7) (.t 35), pre := [11] }])
 (.reg true [{ dst := some 36, op := .mv (.t 3) },
  { dst := some 37, op := .mv (.t 4) },
  { dst := some 38, op := .mv (.t 5) },
  { dst := some 39, op := .mv (.t 3) },
  { dst := some 40, op := .mv (.t 4) },
  { dst := some 41, op := .mv (.t 5) },
  { dst := some 42, op := .nilck (.t 39) },
  { dst := some 43, op := .fa 1 (.t 42) },
  { dst := some 44, op := .iaa 40 40 (.t 43) (.t 40) },
  { dst := some 45, op := .iaa 40 1 (.t 44) (.t 41) },
  { dst := some 46, op := .ld none (.t 45), pre := [] },
  { dst := some 47, op := .mv (.t 46) },
  { dst := some 48, op := .fa 1 (.t 6), grd := some (47, true) },
  { dst := some 49, op := .ld none (.t 48), grd := some (47, true), pre := [] },
  { dst := some 50, op := .bin .neq (.t 49) (.c (.i .i64 3)), grd := some (47, true) },
  { dst := some 51, op := .pick (.t 47) (.t 50) (.c (.b false)) },
  { dst := some 52, op := .mv (.t 51) },
  { dst := some 53, op := .fa 1 (.t 7), grd := some (52, true) },
  { dst := some 54, op := .ld none (.t 53), grd := some (52, true), pre := [] },
  { dst := some 55, op := .bin .neq (.t 54) (.c (.i .i64 3)), grd := some (52, true) },
  { dst := some 56, op := .pick (.t 52) (.t 55) (.c (.b false)) },
  { dst := some 57, op := .mv (.t 56) },
  { dst := some 58, op := .fa 3 (.t 6), grd := some (57, true) },
  { dst := some 59, op := .ld none (.t 58), grd := some (57, true), pre := [] },
  { dst := some 60, op := .fa 3 (.t 7), grd := some (57, true) },
  { dst := some 61, op := .ld none (.t 60), grd := some (57, true), pre := [] },
  { dst := some 62, op := .bin .eql (.t 59) (.t 61), grd := some (57, true) },
  { dst := some 63, op := .pick (.t 57) (.t 62) (.c (.b false)) },
  { dst := some 64, op := .nilck (.t 36) },
  { dst := some 65, op := .fa 1 (.t 64) },
  { dst := some 66, op := .iaa 40 40 (.t 65) (.t 37) },
  { dst := some 67, op := .iaa 40 1 (.t 66) (.t 38) },
  { dst := none, op := .st 1 (.t 67) (.t 63), pre := [] }])))
 (.reg false [{ dst := some 24, op := .mv (.t 5) },
  { dst := some 25, op := .bin .add (.t 24) (.c (.i .i64 1)) },
  { dst := some 5, op := .mv (.t 25) }])))))))
 (.reg false [{ dst := some 16, op := .mv (.t 4) },
  { dst := some 17, op := .bin .add (.t 16) (.c (.i .i64 1)) },
  { dst := some 4, op := .mv (.t 17) }]))))))
 (.seq (.reg false [{ dst := some 68, op := .mv (.t 3) },
  { dst := some 2, op := .mv (.t 68) }])
 .ret)))) }
def A_xref09_Inner : AFun := { res := [.t 4], body := (.seq (.reg false [{ dst := some 2, op := .box (.t 0) },
  { dst := some 4, op := .mv (.c (.nilp)) }])
 (.seq (.reg false [{ dst := some 5, op := .ld (some 8) (.t 2) },
  { dst := some 6, op := .mv (.t 1) },
  { dst := some 7, op := .call .pure (.c (.fn 85 [] [])) [.t 5, .t 6, .c (.b true)] },
  { dst := some 4, op := .mv (.t 7) }])
 .ret)) }
def A_xref09_Outer : AFun := { res := [.t 4], body := (.seq (.reg false [{ dst := some 2, op := .box (.t 0) },
  { dst := some 4, op := .mv (.c (.nilp)) }])
 (.seq (.reg false [{ dst := some 5, op := .ld (some 8) (.t 2) },
  { dst := some 6, op := .mv (.t 1) },
  { dst := some 7, op := .call .pure (.c (.fn 85 [] [])) [.t 5, .t 6, .c (.b false)] },
  { dst := some 4, op := .mv (.t 7) }])
 .ret)) }
def A_xref09_Com : AFun := { res := [.t 2], body := (.seq (.reg false [{ dst := some 1, op := .box (.t 0) },
  { dst := some 2, op := .mv (.c (.nilp)) }])
 (.seq (.reg true [{ dst := some 3, op := .ld (some 8) (.t 1), pre := [] },
  { dst := some 4, op := .call .pure (.c (.fn 69 [] [])) [.t 3], pre := [] },
  { dst := some 5, op := .ld (some 8) (.t 1), pre := [] },
  { dst := some 6, op := .call .pure (.c (.fn 70 [] [])) [.t 5], pre := [] },
  { dst := some 7, op := .call .pure (.c (.fn 29 [] [])) [.t 4, .t 6], pre := [] },
  { dst := some 8, op := .ld (some 8) (.t 1), pre := [] },
  { dst := some 9, op := .call .pure (.c (.fn 71 [] [])) [.t 8], pre := [] },
  { dst := some 10, op := .call .pure (.c (.fn 29 [] [])) [.t 7, .t 9], pre := [] },
  { dst := some 2, op := .mv (.t 10) }])
 .ret)) }
def A_xref09_part : AFun := { res := [.t 6], body := (.seq (.reg false [{ dst := some 3, op := .box (.t 0) },
  { dst := some 6, op := .mv (.c (.nilp)) }])
 (.seq (.reg false [{ dst := some 10, op := .mv (.t 1) },
  { dst := some 11, op := .nilck (.t 10) },
  { dst := some 12, op := .fa 0 (.t 11) },
  { dst := some 13, op := .ld none (.t 12) },
  { dst := some 14, op := .call .thaw (.c (.fn 27 [] [])) [.t 13, .c (.sl [] 0 .rig)] },
  { dst := some 7, op := .mv (.t 14) }])
 (.seq (.seq (.reg false [{ dst := some 8, op := .mv (.c (.i .i64 0)) }])
 (.blk 0 (.loop (.seq (.seq (.reg false [{ dst := some 15, op := .mv (.t 8) },
  { dst := some 16, op := .mv (.t 1) },
  { dst := some 17, op := .nilck (.t 16) },
  { dst := some 18, op := .fa 0 (.t 17) },
  { dst := some 19, op := .ld none (.t 18) },
  { dst := some 20, op := .bin .lss (.t 15) (.t 19) },
  { dst := some 21, op := .mv (.t 20) },
  { dst := some 22, op := .mv (.t 8), grd := some (21, true) },
  { dst := some 23, op := .fa 1 (.t 3), grd := some (21, true) },
  { dst := some 24, op := .ld none (.t 23), grd := some (21, true) },
  { dst := some 25, op := .len (.t 24), grd := some (21, true) },
  { dst := some 26, op := .bin .lss (.t 22) (.t 25), grd := some (21, true) },
  { dst := some 27, op := .pick (.t 21) (.t 26) (.c (.b false)) }])
 (.cond (.t 27) .skip
 (.ext 0)))
 (.seq (.blk 1 (.seq (.reg false [{ dst := some 9, op := .mv (.c (.i .i64 0)) }])
 (.blk 2 (.loop (.seq (.seq (.reg false [{ dst := some 30, op := .mv (.t 9) },
  { dst := some 31, op := .mv (.t 1) },
  { dst := some 32, op := .nilck (.t 31) },
  { dst := some 33, op := .fa 0 (.t 32) },
  { dst := some 34, op := .ld none (.t 33) },
  { dst := some 35, op := .bin .lss (.t 30) (.t 34) },
  { dst := some 36, op := .mv (.t 35) },
  { dst := some 37, op := .mv (.t 9), grd := some (36, true) },
  { dst := some 38, op := .fa 1 (.t 3), grd := some (36, true) },
  { dst := some 39, op := .ld none (.t 38), grd := some (36, true) },
  { dst := some 40, op := .len (.t 39), grd := some (36, true) },
  { dst := some 41, op := .bin .lss (.t 37) (.t 40), grd := some (36, true) },
  { dst := some 42, op := .pick (.t 36) (.t 41) (.c (.b false)) }])
 (.cond (.t 42) .skip
 (.ext 2)))
 (.seq (.blk 3 (.reg true [{ dst := some 45, op := .mv (.t 7) },
  { dst := some 46, op := .mv (.t 8) },
  { dst := some 47, op := .mv (.t 9) },
  { dst := some 48, op := .mv (.t 1) },
  { dst := some 49, op := .mv (.t 8) },
  { dst := some 50, op := .mv (.t 9) },
  { dst := some 51, op := .nilck (.t 48) },
  { dst := some 52, op := .fa 1 (.t 51) },
  { dst := some 53, op := .iaa 40 40 (.t 52) (.t 49) },
  { dst := some 54, op := .iaa 40 1 (.t 53) (.t 50) },
  { dst := some 55, op := .ld none (.t 54), pre := [] },
  { dst := some 56, op := .mv (.t 55) },
  { dst := some 57, op := .fa 1 (.t 3), grd := some (56, true) },
  { dst := some 58, op := .ld none (.t 57), grd := some (56, true), pre := [] },
  { dst := some 59, op := .mv (.t 8), grd := some (56, true) },
  { dst := some 60, op := .ia 6 (.t 58) (.t 59), grd := some (56, true) },
  { dst := some 61, op := .fa 0 (.t 60), grd := some (56, true) },
  { dst := some 62, op := .ld none (.t 61), grd := some (56, true), pre := [] },
  { dst := some 63, op := .fa 1 (.t 3), grd := some (56, true) },
  { dst := some 64, op := .ld none (.t 63), grd := some (56, true), pre := [] },
  { dst := some 65, op := .mv (.t 9), grd := some (56, true) },
  { dst := some 66, op := .ia 6 (.t 64) (.t 65), grd := some (56, true) },
  { dst := some 67, op := .fa 0 (.t 66), grd := some (56, true) },
  { dst := some 68, op := .ld none (.t 67), grd := some (56, true), pre := [] },
  { dst := some 69, op := .bin .eql (.t 62) (.t 68), grd := some (56, true) },
  { dst := some 70, op := .mv (.t 2), grd := some (56, true) },
  { dst := some 71, op := .eqb false (.t 69) (.t 70), grd := some (56, true) },
  { dst := some 72, op := .pick (.t 56) (.t 71) (.c (.b false)) },
  { dst := some 73, op := .nilck (.t 45) },
  { dst := some 74, op := .fa 1 (.t 73) },
  { dst := some 75, op := .iaa 40 40 (.t 74) (.t 46) },
  { dst := some 76, op := .iaa 40 1 (.t 75) (.t 47) },
  { dst := none, op := .st 1 (.t 76) (.t 72), pre := [] }]))
 (.reg false [{ dst := some 43, op := .mv (.t 9) },
  { dst := some 44, op := .bin .add (.t 43) (.c (.i .i64 1)) },
  { dst := some 9, op := .mv (.t 44) }])))))))
 (.reg false [{ dst := some 28, op := .mv (.t 8) },
  { dst := some 29, op := .bin .add (.t 28) (.c (.i .i64 1)) },
  { dst := some 8, op := .mv (.t 29) }]))))))
 (.seq (.reg false [{ dst := some 77, op := .mv (.t 7) },
  { dst := some 6, op := .mv (.t 77) }])
 .ret)))) }
structure Pk_xref09 (F : Funs) : Prop where
  xref09_Rf : F 69 = some A_xref09_Rf
  xref09_Co : F 70 = some A_xref09_Co
  xref09_Fr : F 71 = some A_xref09_Fr
  xref09_Loc : F 73 = some A_xref09_Loc
  xref09_Inner : F 74 = some A_xref09_Inner
  xref09_Outer : F 75 = some A_xref09_Outer
  xref09_part : F 85 = some A_xref09_part
end Go.Ab
end
section
set_option linter.unusedVariables false
set_option linter.unusedSimpArgs false
namespace Go.Ab
variable {F : Funs}
def anyM (L : List (Int × Int)) : Mx := fun a b => L.any fun q => decide (q = ((a : Int), (b : Int)))
theorem anyM_add (L : List (Int × Int)) {a b : Int} (h0 : 0 ≤ a) (h1 : 0 ≤ b) : upd2 (anyM L) a.toNat b.toNat true = anyM (L ++ [(a, b)]) := by
  funext i j
  unfold upd2 anyM
  rw [List.any_append]
  by_cases h : i = a.toNat ∧ j = b.toNat
  · rw [if_pos h]
    have : decide ((a, b) = ((i : Int), (j : Int))) = true := by rw [decide_eq_true_eq, Prod.mk.injEq]; omega
    simp only [List.any_cons, List.any_nil, this, Bool.true_or, Bool.or_true]
  · rw [if_neg h]
    have : decide ((a, b) = ((i : Int), (j : Int))) = false := by rw [decide_eq_false_iff_not, Prod.mk.injEq]; omega
    simp only [List.any_cons, List.any_nil, this, Bool.or_false]
theorem anyM_mem {L : List (Int × Int)} {a b : Nat} : anyM L a b = true ↔ ((a : Int), (b : Int)) ∈ L := by
  unfold anyM
  rw [List.any_eq_true]
  constructor
  · rintro ⟨q, hq, h⟩; rw [decide_eq_true_eq] at h; rw [← h]; exact hq
  · intro h; exact ⟨_, h, by simp⟩
def rfL (X : Gr) (k : Nat) : List (Int × Int) := (List.range k).flatMap fun (i : Nat) => if 0 ≤ X.rf.getD i 0 then [(X.rf.getD i 0, (i : Int))] else []
theorem rfL_succ (X k) : rfL X (k + 1) = rfL X k ++ (if 0 ≤ X.rf.getD k 0 then [(X.rf.getD k 0, (k : Int))] else []) := by simp [rfL, List.range_succ]
set_option maxRecDepth 100000 in
set_option maxHeartbeats 4000000 in
theorem sp_mRf (h69 : F 69 = some A_xref09_Rf) (h27 : F 27 = some A_xref01_New) {X : Gr} (hn : X.evs.length ≤ 40) (hr : X.rf.length ≤ 40) (hw : ∀ i, i < X.rf.length → X.rf.getD i 0 < 40) : pureS F 69 [.agg (grC X)] = some (.ptr (matC X.evs.length (anyM (rfL X X.rf.length)))) := by
  refine pure_of_thaw h69 (matC_flat _ _) ?_
  simp (disch := omega) only [A_xref09_Rf, wp, Nat.reduceAdd, Nat.reduceMul, Nat.reduceSub, gl, ml, thaw27 h27]
  refine W_loop (fun q e g => ∃ k : Nat, q = X.rf.length - k ∧ k ≤ X.rf.length ∧ e 1 = .mp 0 0 ∧ e 3 = .mp 5 0 ∧ e 4 = .i .i64 k ∧ g.hp 0 = some (.cells (grC X) false) ∧ g.hp 5 = some (.cells (matC X.evs.length (anyM (rfL X k))) false) ∧ 5 < g.nx) X.rf.length ?_ ?_
  · refine ⟨0, rfl, Nat.zero_le _, ?_⟩
    simp (disch := omega) only [wp, Nat.reduceAdd, Nat.reduceMul, Nat.reduceSub]
    exact ⟨rfl, rfl, by first | omega | (dsimp only; omega)⟩
  · rintro q e g ⟨k, rfl, hk, e1, e3, e4, hg, hm, hnx⟩
    by_cases hk' : k < X.rf.length
    · have hk1 : (k : Int) < X.rf.length := by omega
      have hk40 : (k : Int) < 40 := by omega
      have hwk := succ_wrap (k := k) (by omega)
      have hp := ints_part hk'
      have hs := rfL_succ X k
      have hwb := hw k hk'
      generalize X.rf.getD k 0 = w at hp hs hwb
      generalize rfL X k = L at hm hs
      by_cases c1 : 0 ≤ w
      case neg =>
        rw [if_neg c1, List.append_nil] at hs
        simp (disch := omega) only [wp, Nat.reduceAdd, Nat.reduceMul, Nat.reduceSub, gl, ml, e1, e3, e4, hg, hm, hk1, hp, c1, hwk]
        exact ⟨X.rf.length - (k + 1), by omega, k + 1, rfl, by omega, rfl, by rw [hs], by first | omega | (dsimp only; omega)⟩
      rw [if_pos c1] at hs
      have hadd := anyM_add L c1 (b := (k : Int)) (by omega)
      rw [Int.toNat_natCast] at hadd
      have hset := matC_set (n := X.evs.length) (M := anyM L) (a := w.toNat) (b := k) (x := true) (by omega)
      rw [hadd, ← hs] at hset
      simp (disch := omega) only [wp, Nat.reduceAdd, Nat.reduceMul, Nat.reduceSub, gl, ml, e1, e3, e4, hg, hm, hk1, hp, c1, hwk, hset]
      exact ⟨X.rf.length - (k + 1), by omega, k + 1, rfl, by omega, rfl, rfl, by first | omega | (dsimp only; omega)⟩
    · obtain rfl : k = X.rf.length := by omega
      have hk1 : ¬ ((X.rf.length : Int) < X.rf.length) := by omega
      simp (disch := omega) only [wp, Nat.reduceAdd, Nat.reduceMul, Nat.reduceSub, gl, ml, e1, e3, e4, hg, hm, hk1]
      exact ⟨_, rfl, hm⟩
def coI (c : List Int) (i k : Nat) : List (Int × Int) := (List.range k).flatMap fun m => if i < m then [(c.getD i 0, c.getD m 0)] else []
theorem coI_succ {c : List Int} {i k : Nat} (h : i < k) : coI c i (k + 1) = coI c i k ++ [(c.getD i 0, c.getD k 0)] := by simp [coI, List.range_succ, h]
theorem coI_0 (c : List Int) (i : Nat) : coI c i (i + 1) = [] := by
  unfold coI
  rw [List.flatMap_eq_nil_iff]
  intro m hm
  rw [if_neg (by have := List.mem_range.1 hm; omega)]
def coJ (c : List Int) (i : Nat) : List (Int × Int) := (List.range i).flatMap fun j => coI c j c.length
theorem coJ_succ (c i) : coJ c (i + 1) = coJ c i ++ coI c i c.length := by simp [coJ, List.range_succ]
def coX (X : Gr) (l : Nat) : List (Int × Int) := (List.range l).flatMap fun j => coJ (X.co.getD j []) (X.co.getD j []).length
theorem coX_succ (X l) : coX X (l + 1) = coX X l ++ coJ (X.co.getD l []) (X.co.getD l []).length := by simp [coX, List.range_succ]
set_option maxRecDepth 100000 in
set_option maxHeartbeats 4000000 in
theorem sp_mCo (h70 : F 70 = some A_xref09_Co) (h27 : F 27 = some A_xref01_New) {X : Gr} (hn : X.evs.length ≤ 40) (hl : X.co.length ≤ 1000) (hc : ∀ j, j < X.co.length → (X.co.getD j []).length ≤ 1000 ∧ ∀ i, i < (X.co.getD j []).length → 0 ≤ (X.co.getD j []).getD i 0 ∧ (X.co.getD j []).getD i 0 < 40) : pureS F 70 [.agg (grC X)] = some (.ptr (matC X.evs.length (anyM (coX X X.co.length)))) := by
  refine pure_of_thaw h70 (matC_flat _ _) ?_
  simp (disch := omega) only [A_xref09_Co, wp, Nat.reduceAdd, Nat.reduceMul, Nat.reduceSub, gl, ml, thaw27 h27]
  refine W_loop (fun q e g => ∃ j : Nat, q = X.co.length - j ∧ j ≤ X.co.length ∧ e 1 = .mp 0 0 ∧ e 3 = .mp 5 0 ∧ e 4 = .i .i64 j ∧ g.hp 0 = some (.cells (grC X) false) ∧ g.hp 5 = some (.cells (matC X.evs.length (anyM (coX X j))) false) ∧ 5 < g.nx) X.co.length ?_ ?_
  · refine ⟨0, rfl, Nat.zero_le _, ?_⟩
    simp (disch := omega) only [wp, Nat.reduceAdd, Nat.reduceMul, Nat.reduceSub]
    exact ⟨rfl, rfl, by first | omega | (dsimp only; omega)⟩
  · rintro q e g ⟨j, rfl, hj, e1, e3, e4, hg, hm, hnx⟩
    by_cases hj' : j < X.co.length
    · have hj1 : (j : Int) < X.co.length := by omega
      have hwj := succ_wrap (k := j) (by omega)
      have hp := co_part hj'
      have hs := coX_succ X j
      obtain ⟨hcl, hcr⟩ := hc j hj'
      generalize X.co.getD j [] = c at hp hs hcl hcr
      generalize coX X j = L at hm hs
      simp (disch := omega) only [wp, Nat.reduceAdd, Nat.reduceMul, Nat.reduceSub, gl, ml, e1, e3, e4, hg, hm, hj1]
      refine W_loop (fun q e g => ∃ i : Nat, q = c.length - i ∧ i ≤ c.length ∧ e 1 = .mp 0 0 ∧ e 3 = .mp 5 0 ∧ e 4 = .i .i64 j ∧ e 5 = .i .i64 i ∧ g.hp 0 = some (.cells (grC X) false) ∧ g.hp 5 = some (.cells (matC X.evs.length (anyM (L ++ coJ c i))) false) ∧ 5 < g.nx) c.length ?_ ?_
      · refine ⟨0, rfl, Nat.zero_le _, ?_⟩
        simp (disch := omega) only [wp, Nat.reduceAdd, Nat.reduceMul, Nat.reduceSub, e1, e3, e4]
        exact ⟨rfl, hg, by rw [hm]; simp [coJ], by first | omega | (dsimp only; omega)⟩
      · rintro q e g ⟨i, rfl, hi, e1, e3, e4, e5, hg, hm, hnx⟩
        by_cases hi' : i < c.length
        · have hi1 : (i : Int) < c.length := by omega
          have hwi := succ_wrap (k := i) (by omega)
          have hip := ints_part hi'
          have hsJ := coJ_succ c i
          have ⟨ha0, ha1⟩ := hcr i hi'
          generalize hLJ : L ++ coJ c i = LJ at hm
          have hsJ' : L ++ coJ c (i + 1) = LJ ++ coI c i c.length := by rw [hsJ, ← List.append_assoc, hLJ]
          simp (disch := omega) only [wp, Nat.reduceAdd, Nat.reduceMul, Nat.reduceSub, gl, ml, e1, e3, e4, e5, hg, hm, hj1, hp, hi1, hwi]
          refine W_loop (fun q e g => ∃ k : Nat, q = c.length - k ∧ i < k ∧ k ≤ c.length ∧ e 1 = .mp 0 0 ∧ e 3 = .mp 5 0 ∧ e 4 = .i .i64 j ∧ e 5 = .i .i64 i ∧ e 6 = .i .i64 k ∧ g.hp 0 = some (.cells (grC X) false) ∧ g.hp 5 = some (.cells (matC X.evs.length (anyM (LJ ++ coI c i k))) false) ∧ 5 < g.nx) (c.length - (i + 1)) ?_ ?_
          · refine ⟨i + 1, rfl, by omega, by omega, ?_⟩
            simp (disch := omega) only [wp, Nat.reduceAdd, Nat.reduceMul, Nat.reduceSub, e1, e3, e4, e5, coI_0, List.append_nil]
            exact ⟨hg, hm, by first | omega | (dsimp only; omega)⟩
          · rintro q e g ⟨k, rfl, hik, hk, e1, e3, e4, e5, e6, hg, hm, hnx⟩
            by_cases hk' : k < c.length
            · have hk1 : (k : Int) < c.length := by omega
              have hwk := succ_wrap (k := k) (by omega)
              have hkp := ints_part hk'
              have hsI := coI_succ (c := c) hik
              have ⟨hb0, hb1⟩ := hcr k hk'
              generalize hLI : LJ ++ coI c i k = LI at hm
              have hsI' : LJ ++ coI c i (k + 1) = LI ++ [(c.getD i 0, c.getD k 0)] := by rw [hsI, ← List.append_assoc, hLI]
              generalize c.getD i 0 = va at hip ha0 ha1 hsI'
              generalize c.getD k 0 = vb at hkp hb0 hb1 hsI'
              have hadd := anyM_add LI ha0 hb0
              have hset := matC_set (n := X.evs.length) (M := anyM LI) (a := va.toNat) (b := vb.toNat) (x := true) (by omega)
              rw [hadd, ← hsI'] at hset
              simp (disch := omega) only [wp, Nat.reduceAdd, Nat.reduceMul, Nat.reduceSub, gl, ml, e1, e3, e4, e5, e6, hg, hm, hj1, hp, hi1, hk1, hip, hkp, hwk, hset]
              exact ⟨c.length - (k + 1), by omega, k + 1, rfl, by omega, by omega, rfl, rfl, by first | omega | (dsimp only; omega)⟩
            · obtain rfl : k = c.length := by omega
              have hk1 : ¬ ((c.length : Int) < c.length) := by omega
              simp (disch := omega) only [wp, Nat.reduceAdd, Nat.reduceMul, Nat.reduceSub, gl, ml, e1, e3, e4, e5, e6, hg, hm, hj1, hp, hk1, hwi]
              exact ⟨c.length - (i + 1), by omega, i + 1, rfl, by omega, rfl, by rw [hsJ'], by first | omega | (dsimp only; omega)⟩
        · obtain rfl : i = c.length := by omega
          have hi1 : ¬ ((c.length : Int) < c.length) := by omega
          simp (disch := omega) only [wp, Nat.reduceAdd, Nat.reduceMul, Nat.reduceSub, gl, ml, e1, e3, e4, e5, hg, hm, hj1, hp, hi1, hwj]
          exact ⟨X.co.length - (j + 1), by omega, j + 1, rfl, by omega, rfl, by rw [hs], by first | omega | (dsimp only; omega)⟩
    · obtain rfl : j = X.co.length := by omega
      have hj1 : ¬ ((X.co.length : Int) < X.co.length) := by omega
      simp (disch := omega) only [wp, Nat.reduceAdd, Nat.reduceMul, Nat.reduceSub, gl, ml, e1, e3, e4, hg, hm, hj1]
      exact ⟨_, rfl, hm⟩
end Go.Ab
end
section
set_option linter.unusedVariables false
set_option linter.unusedSimpArgs false
namespace Go.Ab
variable {F : Funs}
def stU (φ : Nat → Nat → Bool) (n a b : Nat) : Mx := fun i j => if (i < a ∧ i < j ∧ j < n) ∨ (i = a ∧ i < j ∧ j < b) then φ i j else false
theorem stU_succ {φ : Nat → Nat → Bool} {n a b : Nat} (h : a < b) : upd2 (stU φ n a b) a b (φ a b) = stU φ n a (b + 1) := by
  funext i j
  unfold upd2 stU
  by_cases h1 : i = a ∧ j = b
  · obtain ⟨rfl, rfl⟩ := h1
    rw [if_pos ⟨rfl, rfl⟩, if_pos (by omega)]
  · rw [if_neg h1]
    by_cases h2 : (i < a ∧ i < j ∧ j < n) ∨ (i = a ∧ i < j ∧ j < b)
    · rw [if_pos h2, if_pos (by omega)]
    · rw [if_neg h2, if_neg (by omega)]
theorem stU_row (φ : Nat → Nat → Bool) (n a : Nat) : stU φ n a n = stU φ n (a + 1) (a + 1 + 1) := by
  funext i j
  unfold stU
  by_cases h2 : (i < a ∧ i < j ∧ j < n) ∨ (i = a ∧ i < j ∧ j < n)
  · rw [if_pos h2, if_pos (by omega)]
  · rw [if_neg h2, if_neg (by omega)]
theorem stU_0 (φ : Nat → Nat → Bool) (n : Nat) : stU φ n 0 (0 + 1) = fun _ _ => false := by
  funext i j; unfold stU; rw [if_neg (by omega)]
def thI (X : Gr) (i : Nat) : Int := (X.evs.getD i ev0).th
def poV (X : Gr) (i j : Nat) : Bool := (thI X i == 0 && decide (0 < thI X j)) || (decide (0 < thI X i) && thI X i == thI X j)
set_option maxRecDepth 100000 in
set_option maxHeartbeats 4000000 in
theorem po_W (h27 : F 27 = some A_xref01_New) {X : Gr} (hn : X.evs.length ≤ 40) : W F A_xref06_Po.body (argEnv [.agg (grC X)]) g0 (retT A_xref06_Po.res (matC X.evs.length (stU (poV X) X.evs.length X.evs.length (X.evs.length + 1)))) := by
  simp (disch := omega) only [A_xref06_Po, wp, Nat.reduceAdd, Nat.reduceMul, Nat.reduceSub, gl, ml, thaw27 h27]
  refine W_loop (fun q e g => ∃ a : Nat, q = X.evs.length - a ∧ a ≤ X.evs.length ∧ e 1 = .mp 0 0 ∧ e 3 = .mp 5 0 ∧ e 4 = .i .i64 a ∧ g.hp 0 = some (.cells (grC X) false) ∧ g.hp 5 = some (.cells (matC X.evs.length (stU (poV X) X.evs.length a (a + 1))) false) ∧ 5 < g.nx) X.evs.length ?_ ?_
  · refine ⟨0, rfl, Nat.zero_le _, ?_⟩
    simp (disch := omega) only [wp, Nat.reduceAdd, Nat.reduceMul, Nat.reduceSub]
    exact ⟨rfl, by rw [stU_0], by first | omega | (dsimp only; omega)⟩
  · rintro q e g ⟨a, rfl, ha, e1, e3, e4, hg, hm, hnx⟩
    by_cases ha' : a < X.evs.length
    · have ha1 : (a : Int) < X.evs.length := by omega
      have hwa := succ_wrap (k := a) (by omega)
      simp (disch := omega) only [wp, Nat.reduceAdd, Nat.reduceMul, Nat.reduceSub, gl, ml, e1, e3, e4, hg, hm, ha1, hwa]
      refine W_loop (fun q e g => ∃ b : Nat, q = X.evs.length - b ∧ a < b ∧ b ≤ X.evs.length ∧ e 1 = .mp 0 0 ∧ e 3 = .mp 5 0 ∧ e 4 = .i .i64 a ∧ e 5 = .i .i64 b ∧ g.hp 0 = some (.cells (grC X) false) ∧ g.hp 5 = some (.cells (matC X.evs.length (stU (poV X) X.evs.length a b)) false) ∧ 5 < g.nx) (X.evs.length - (a + 1)) ?_ ?_
      · refine ⟨a + 1, rfl, by omega, by omega, ?_⟩
        simp (disch := omega) only [wp, Nat.reduceAdd, Nat.reduceMul, Nat.reduceSub, e1, e3, e4]
        exact ⟨hg, hm, by first | omega | (dsimp only; omega)⟩
      · rintro q e g ⟨b, rfl, hab, hb, e1, e3, e4, e5, hg, hm, hnx⟩
        by_cases hb' : b < X.evs.length
        · have hb1 : (b : Int) < X.evs.length := by omega
          have hwb := succ_wrap (k := b) (by omega)
          have tA := ev_th_at ha'
          have tB := ev_th_at hb'
          have dA : (List.drop (a * 6) (evsC X.evs)).length = X.evs.length * 6 - a * 6 := by rw [List.length_drop, evsC_len]
          have dB : (List.drop (b * 6) (evsC X.evs)).length = X.evs.length * 6 - b * 6 := by rw [List.length_drop, evsC_len]
          have hv : poV X a b = ((thI X a == 0 && decide (0 < thI X b)) || (decide (0 < thI X a) && thI X a == thI X b)) := rfl
          have hs := stU_succ (φ := poV X) (n := X.evs.length) hab
          have hset := fun x => matC_set (n := X.evs.length) (M := stU (poV X) X.evs.length a b) (a := a) (b := b) (x := x) (by omega)
          unfold thI at hv
          generalize (X.evs.getD a ev0).th = ta at tA hv
          generalize (X.evs.getD b ev0).th = tb at tB hv
          generalize poV X a b = v at hs hv
          have fin : ∀ x, x = v → X.evs.length - (b + 1) < X.evs.length - b ∧ upd2 (stU (poV X) X.evs.length a b) a b x = stU (poV X) X.evs.length a (b + 1) := fun x hx => ⟨by omega, by rw [hx, hs]⟩
          cases c1 : (ta == 0)
          case true =>
            by_cases c2 : 0 < tb
            case pos =>
              simp (disch := omega) only [wp, Nat.reduceAdd, Nat.reduceMul, Nat.reduceSub, gl, ml, e1, e3, e4, e5, hg, hm, hb1, tA, tB, dA, dB, c1, c2, hset, hwb]
              obtain ⟨f1, f2⟩ := fin true (by rw [hv, c1, decide_eq_true c2]; rfl)
              exact ⟨_, f1, b + 1, rfl, by omega, by omega, rfl, by rw [f2], by first | omega | (dsimp only; omega)⟩
            have c3 : ¬ 0 < ta := by have : ta = 0 := by simpa using c1
                                     omega
            simp (disch := omega) only [wp, Nat.reduceAdd, Nat.reduceMul, Nat.reduceSub, gl, ml, e1, e3, e4, e5, hg, hm, hb1, tA, tB, dA, dB, c1, c2, c3, hset, hwb]
            obtain ⟨f1, f2⟩ := fin false (by rw [hv, c1, decide_eq_false c2, decide_eq_false c3]; rfl)
            exact ⟨_, f1, b + 1, rfl, by omega, by omega, rfl, by rw [f2], by first | omega | (dsimp only; omega)⟩
          by_cases c3 : 0 < ta
          case neg =>
            simp (disch := omega) only [wp, Nat.reduceAdd, Nat.reduceMul, Nat.reduceSub, gl, ml, e1, e3, e4, e5, hg, hm, hb1, tA, tB, dA, dB, c1, c3, hset, hwb]
            obtain ⟨f1, f2⟩ := fin false (by rw [hv, c1, decide_eq_false c3]; rfl)
            exact ⟨_, f1, b + 1, rfl, by omega, by omega, rfl, by rw [f2], by first | omega | (dsimp only; omega)⟩
          simp (disch := omega) only [wp, Nat.reduceAdd, Nat.reduceMul, Nat.reduceSub, gl, ml, e1, e3, e4, e5, hg, hm, hb1, tA, tB, dA, dB, c1, c3, hset, hwb]
          obtain ⟨f1, f2⟩ := fin (ta == tb) (by rw [hv, c1, decide_eq_true c3]; simp)
          exact ⟨_, f1, b + 1, rfl, by omega, by omega, rfl, by rw [f2], by first | omega | (dsimp only; omega)⟩
        · obtain rfl : b = X.evs.length := by omega
          have hb1 : ¬ ((X.evs.length : Int) < X.evs.length) := by omega
          simp (disch := omega) only [wp, Nat.reduceAdd, Nat.reduceMul, Nat.reduceSub, gl, ml, e1, e3, e4, e5, hg, hm, hb1, hwa]
          exact ⟨X.evs.length - (a + 1), by omega, a + 1, rfl, by omega, rfl, by rw [stU_row], by first | omega | (dsimp only; omega)⟩
    · obtain rfl : a = X.evs.length := by omega
      have ha1 : ¬ ((X.evs.length : Int) < X.evs.length) := by omega
      simp (disch := omega) only [wp, Nat.reduceAdd, Nat.reduceMul, Nat.reduceSub, gl, ml, e1, e3, e4, hg, hm, ha1]
      exact ⟨_, rfl, hm⟩
def mpoM (X : Gr) : Mx := stU (poV X) X.evs.length X.evs.length (X.evs.length + 1)
theorem sp_mPo (h84 : F 84 = some A_xref06_Po) (h27 : F 27 = some A_xref01_New) {X : Gr} (hn : X.evs.length ≤ 40) : pureS F 84 [.agg (grC X)] = some (.ptr (matC X.evs.length (mpoM X))) := pure_of_thaw h84 (matC_flat _ _) (po_W h27 hn)
theorem thaw84 (h84 : F 84 = some A_xref06_Po) (h27 : F 27 = some A_xref01_New) {X : Gr} (hn : X.evs.length ≤ 40) (al : Nat → Bool) (id : Nat) (g : G) : vThaw F al id (.fn 84 [] []) [.agg (grC X)] g = some (.mp id 0, ⟨upd g.hp id (some (.cells (matC X.evs.length (mpoM X)) false)), g.nx⟩) :=
  vThaw_S (bs := [.agg (grC X)]) (by simp only [frzL_cons, frz_gr, frzL_nil, consO_ok]) (thaw_of h84 (matC_flat _ _) (po_W h27 hn)) (by simp only [List.flatMap_cons, List.flatMap_nil, vis_gr, List.append_nil])
end Go.Ab
end
section
set_option linter.unusedVariables false
set_option linter.unusedSimpArgs false
namespace Go.Ab
variable {F : Funs}
def stK (M : Mx) (φ : Nat → Nat → Bool) (n a b : Nat) : Mx := fun i j => if (i < a ∧ j < n) ∨ (i = a ∧ j < b) then M i j && φ i j else M i j
theorem stK_succ (M φ n a b) : upd2 (stK M φ n a b) a b (M a b && φ a b) = stK M φ n a (b + 1) := by
  funext i j
  unfold upd2 stK
  by_cases h1 : i = a ∧ j = b
  · obtain ⟨rfl, rfl⟩ := h1
    rw [if_pos ⟨rfl, rfl⟩, if_pos (by omega)]
  · rw [if_neg h1]
    by_cases h2 : (i < a ∧ j < n) ∨ (i = a ∧ j < b)
    · rw [if_pos h2, if_pos (by omega)]
    · rw [if_neg h2, if_neg (by omega)]
theorem stK_row (M φ n a) : stK M φ n a n = stK M φ n (a + 1) 0 := by
  funext i j
  unfold stK
  by_cases h2 : (i < a ∧ j < n) ∨ (i = a ∧ j < n)
  · rw [if_pos h2, if_pos (by omega)]
  · rw [if_neg h2, if_neg (by omega)]
theorem stK_0 (M φ n) : stK M φ n 0 0 = M := by funext i j; unfold stK; rw [if_neg (by omega)]
theorem stK_at (M φ n a b) : stK M φ n a b a b = M a b := by unfold stK; rw [if_neg (by omega)]
def locV (X : Gr) (i j : Nat) : Bool := (X.evs.getD i ev0).kd != 3 && ((X.evs.getD j ev0).kd != 3 && (X.evs.getD i ev0).lc == (X.evs.getD j ev0).lc)
def locM (X : Gr) : Mx := stK (mpoM X) (locV X) X.evs.length X.evs.length 0
set_option maxRecDepth 100000 in
set_option maxHeartbeats 4000000 in
theorem sp_mLoc (h73 : F 73 = some A_xref09_Loc) (h84 : F 84 = some A_xref06_Po) (h27 : F 27 = some A_xref01_New) {X : Gr} (hn : X.evs.length ≤ 40) : pureS F 73 [.agg (grC X)] = some (.ptr (matC X.evs.length (locM X))) := by
  refine pure_of_thaw h73 (matC_flat _ _) ?_
  have s6 : ∀ b1 b2 b3 b4 b5 b6 c1 c2 c3 c4 c5 c6 : AV, splice [b1, b2, b3, b4, b5, b6] 0 [c1, c2, c3, c4, c5, c6] = [c1, c2, c3, c4, c5, c6] := fun _ _ _ _ _ _ _ _ _ _ _ _ => rfl
  simp (disch := omega) only [A_xref09_Loc, wp, Nat.reduceAdd, Nat.reduceMul, Nat.reduceSub, gl, ml, thaw84 h84 h27 hn]
  generalize hM0 : mpoM X = M0
  have hloc : locM X = stK M0 (locV X) X.evs.length X.evs.length 0 := by unfold locM; rw [hM0]
  refine W_loop (fun q e g => ∃ a : Nat, q = X.evs.length - a ∧ a ≤ X.evs.length ∧ e 1 = .mp 0 0 ∧ e 3 = .mp 3 0 ∧ e 4 = .i .i64 a ∧ g.hp 0 = some (.cells (grC X) false) ∧ g.hp 3 = some (.cells (matC X.evs.length (stK M0 (locV X) X.evs.length a 0)) false) ∧ 3 < g.nx) X.evs.length ?_ ?_
  · refine ⟨0, rfl, Nat.zero_le _, ?_⟩
    simp (disch := omega) only [wp, Nat.reduceAdd, Nat.reduceMul, Nat.reduceSub]
    exact ⟨rfl, by rw [stK_0], by first | omega | (dsimp only; omega)⟩
  · rintro q e g ⟨a, rfl, ha, e1, e3, e4, hg, hm, hnx⟩
    by_cases ha' : a < X.evs.length
    · have ha1 : (a : Int) < X.evs.length := by omega
      have hwa := succ_wrap (k := a) (by omega)
      simp (disch := omega) only [wp, Nat.reduceAdd, Nat.reduceMul, Nat.reduceSub, gl, ml, e1, e3, e4, hg, hm, ha1]
      refine W_loop (fun q e g => ∃ b : Nat, q = X.evs.length - b ∧ b ≤ X.evs.length ∧ e 1 = .mp 0 0 ∧ e 3 = .mp 3 0 ∧ e 4 = .i .i64 a ∧ e 5 = .i .i64 b ∧ g.hp 0 = some (.cells (grC X) false) ∧ g.hp 3 = some (.cells (matC X.evs.length (stK M0 (locV X) X.evs.length a b)) false) ∧ 3 < g.nx) X.evs.length ?_ ?_
      · refine ⟨0, rfl, Nat.zero_le _, ?_⟩
        simp (disch := omega) only [wp, Nat.reduceAdd, Nat.reduceMul, Nat.reduceSub, e1, e3, e4]
        exact ⟨rfl, hg, hm, by first | omega | (dsimp only; omega)⟩
      · rintro q e g ⟨b, rfl, hb, e1, e3, e4, e5, hg, hm, hnx⟩
        by_cases hb' : b < X.evs.length
        · have hb1 : (b : Int) < X.evs.length := by omega
          have hwb := succ_wrap (k := b) (by omega)
          have pa := ev_part ha'
          have pb := ev_part hb'
          have hv : locV X a b = ((X.evs.getD a ev0).kd != 3 && ((X.evs.getD b ev0).kd != 3 && (X.evs.getD a ev0).lc == (X.evs.getD b ev0).lc)) := rfl
          have hs := stK_succ M0 (locV X) X.evs.length a b
          have hat := stK_at M0 (locV X) X.evs.length a b
          have hset := fun x => matC_set (n := X.evs.length) (M := stK M0 (locV X) X.evs.length a b) (a := a) (b := b) (x := x) (by omega)
          generalize X.evs.getD a ev0 = u at pa hv
          generalize X.evs.getD b ev0 = v at pb hv
          obtain ⟨th, kd, md, lc, vl, ex⟩ := u
          obtain ⟨th', kd', md', lc', vl', ex'⟩ := v
          simp only at hv
          generalize locV X a b = z at hs hv
          have fin : ∀ x, x = (M0 a b && z) → X.evs.length - (b + 1) < X.evs.length - b ∧ upd2 (stK M0 (locV X) X.evs.length a b) a b x = stK M0 (locV X) X.evs.length a (b + 1) := fun x hx => ⟨by omega, by rw [hx, hs]⟩
          cases c0 : M0 a b
          case false =>
            rw [c0] at hat
            simp (disch := omega) only [wp, Nat.reduceAdd, Nat.reduceMul, Nat.reduceSub, gl, ml, e1, e3, e4, e5, hg, hm, ha1, hb1, pa, pb, s6, hat, c0, hset, hwb]
            obtain ⟨f1, f2⟩ := fin false (by rw [c0]; rfl)
            exact ⟨_, f1, b + 1, rfl, by omega, rfl, by rw [f2], by first | omega | (dsimp only; omega)⟩
          rw [c0] at hat
          cases c1 : (kd != 3)
          case false =>
            simp (disch := omega) only [wp, Nat.reduceAdd, Nat.reduceMul, Nat.reduceSub, gl, ml, e1, e3, e4, e5, hg, hm, ha1, hb1, pa, pb, s6, hat, c0, c1, hset, hwb]
            obtain ⟨f1, f2⟩ := fin false (by rw [c0, hv, c1]; rfl)
            exact ⟨_, f1, b + 1, rfl, by omega, rfl, by rw [f2], by first | omega | (dsimp only; omega)⟩
          cases c2 : (kd' != 3)
          case false =>
            simp (disch := omega) only [wp, Nat.reduceAdd, Nat.reduceMul, Nat.reduceSub, gl, ml, e1, e3, e4, e5, hg, hm, ha1, hb1, pa, pb, s6, hat, c0, c1, c2, hset, hwb]
            obtain ⟨f1, f2⟩ := fin false (by rw [c0, hv, c1, c2]; rfl)
            exact ⟨_, f1, b + 1, rfl, by omega, rfl, by rw [f2], by first | omega | (dsimp only; omega)⟩
          simp (disch := omega) only [wp, Nat.reduceAdd, Nat.reduceMul, Nat.reduceSub, gl, ml, e1, e3, e4, e5, hg, hm, ha1, hb1, pa, pb, s6, hat, c0, c1, c2, hset, hwb]
          obtain ⟨f1, f2⟩ := fin (lc == lc') (by rw [c0, hv, c1, c2]; simp)
          exact ⟨_, f1, b + 1, rfl, by omega, rfl, by rw [f2], by first | omega | (dsimp only; omega)⟩
        · obtain rfl : b = X.evs.length := by omega
          have hb1 : ¬ ((X.evs.length : Int) < X.evs.length) := by omega
          simp (disch := omega) only [wp, Nat.reduceAdd, Nat.reduceMul, Nat.reduceSub, gl, ml, e1, e3, e4, e5, hg, hm, hb1, hwa]
          exact ⟨X.evs.length - (a + 1), by omega, a + 1, rfl, by omega, rfl, by rw [stK_row], by first | omega | (dsimp only; omega)⟩
    · obtain rfl : a = X.evs.length := by omega
      have ha1 : ¬ ((X.evs.length : Int) < X.evs.length) := by omega
      simp (disch := omega) only [wp, Nat.reduceAdd, Nat.reduceMul, Nat.reduceSub, gl, ml, e1, e3, e4, hg, hm, ha1, hloc]
      exact ⟨_, rfl, hm⟩
def thV (X : Gr) (one : Bool) : Mx := fun i j => (thI X i == thI X j) == one
def prtM (X : Gr) (one : Bool) (A : Mx) : Mx := opM (fun x y => x && y) A (thV X one) X.evs.length
set_option maxRecDepth 100000 in
set_option maxHeartbeats 4000000 in
theorem sp_mpart (h85 : F 85 = some A_xref09_part) (h27 : F 27 = some A_xref01_New) {X : Gr} (hn : X.evs.length ≤ 40) (A : Mx) (one : Bool) : pureS F 85 [.agg (grC X), .ptr (matC X.evs.length A), .b one] = some (.ptr (matC X.evs.length (prtM X one A))) := by
  refine pure_of_thaw h85 (matC_flat _ _) ?_
  have fin0 : prtM X one A = stM (fun x y => x && y) A (thV X one) X.evs.length X.evs.length 0 := rfl
  simp (disch := omega) only [A_xref09_part, wp, Nat.reduceAdd, Nat.reduceMul, Nat.reduceSub, gl, ml, thaw27 h27]
  generalize hB : thV X one = B at fin0
  refine W_loop (fun q e g => ∃ a : Nat, q = X.evs.length - a ∧ a ≤ X.evs.length ∧ e 1 = .ptr (matC X.evs.length A) ∧ e 2 = .b one ∧ e 3 = .mp 0 0 ∧ e 7 = .mp 6 0 ∧ e 8 = .i .i64 a ∧ g.hp 0 = some (.cells (grC X) false) ∧ g.hp 6 = some (.cells (matC X.evs.length (stM (fun x y => x && y) A B X.evs.length a 0)) false) ∧ 6 < g.nx) X.evs.length ?_ ?_
  · refine ⟨0, rfl, Nat.zero_le _, ?_⟩
    simp (disch := omega) only [wp, Nat.reduceAdd, Nat.reduceMul, Nat.reduceSub]
    exact ⟨rfl, by rw [stM_0], by first | omega | (dsimp only; omega)⟩
  · rintro q e g ⟨a, rfl, ha, e1, e2, e3, e7, e8, hg, hm, hnx⟩
    by_cases ha' : a < X.evs.length
    · have ha1 : (a : Int) < X.evs.length := by omega
      have hwa := succ_wrap (k := a) (by omega)
      simp (disch := omega) only [wp, Nat.reduceAdd, Nat.reduceMul, Nat.reduceSub, gl, ml, e1, e2, e3, e7, e8, hg, hm, ha1]
      refine W_loop (fun q e g => ∃ b : Nat, q = X.evs.length - b ∧ b ≤ X.evs.length ∧ e 1 = .ptr (matC X.evs.length A) ∧ e 2 = .b one ∧ e 3 = .mp 0 0 ∧ e 7 = .mp 6 0 ∧ e 8 = .i .i64 a ∧ e 9 = .i .i64 b ∧ g.hp 0 = some (.cells (grC X) false) ∧ g.hp 6 = some (.cells (matC X.evs.length (stM (fun x y => x && y) A B X.evs.length a b)) false) ∧ 6 < g.nx) X.evs.length ?_ ?_
      · refine ⟨0, rfl, Nat.zero_le _, ?_⟩
        simp (disch := omega) only [wp, Nat.reduceAdd, Nat.reduceMul, Nat.reduceSub, e1, e2, e3, e7, e8]
        exact ⟨rfl, hg, hm, by first | omega | (dsimp only; omega)⟩
      · rintro q e g ⟨b, rfl, hb, e1, e2, e3, e7, e8, e9, hg, hm, hnx⟩
        by_cases hb' : b < X.evs.length
        · have hb1 : (b : Int) < X.evs.length := by omega
          have hwb := succ_wrap (k := b) (by omega)
          have tA := ev_th_at ha'
          have tB := ev_th_at hb'
          have dA : (List.drop (a * 6) (evsC X.evs)).length = X.evs.length * 6 - a * 6 := by rw [List.length_drop, evsC_len]
          have dB : (List.drop (b * 6) (evsC X.evs)).length = X.evs.length * 6 - b * 6 := by rw [List.length_drop, evsC_len]
          have hv : B a b = (((X.evs.getD a ev0).th == (X.evs.getD b ev0).th) == one) := by rw [← hB]; rfl
          have hs := stM_succ (fun x y => x && y) A B X.evs.length a b
          have hset := fun x => matC_set (n := X.evs.length) (M := stM (fun x y => x && y) A B X.evs.length a b) (a := a) (b := b) (x := x) (by omega)
          generalize (X.evs.getD a ev0).th = ta at tA hv
          generalize (X.evs.getD b ev0).th = tb at tB hv
          have fin : ∀ x, x = (A a b && B a b) → X.evs.length - (b + 1) < X.evs.length - b ∧ upd2 (stM (fun x y => x && y) A B X.evs.length a b) a b x = stM (fun x y => x && y) A B X.evs.length a (b + 1) := fun x hx => ⟨by omega, by rw [hx]; exact hs⟩
          cases c0 : A a b
          case false =>
            simp (disch := omega) only [wp, Nat.reduceAdd, Nat.reduceMul, Nat.reduceSub, gl, ml, e1, e2, e3, e7, e8, e9, hg, hm, ha1, hb1, tA, tB, dA, dB, c0, hset, hwb]
            obtain ⟨f1, f2⟩ := fin false (by rw [c0]; rfl)
            exact ⟨_, f1, b + 1, rfl, by omega, rfl, by rw [f2], by first | omega | (dsimp only; omega)⟩
          simp (disch := omega) only [wp, Nat.reduceAdd, Nat.reduceMul, Nat.reduceSub, gl, ml, e1, e2, e3, e7, e8, e9, hg, hm, ha1, hb1, tA, tB, dA, dB, c0, hset, hwb]
          obtain ⟨f1, f2⟩ := fin ((ta == tb) == one) (by rw [c0, hv]; rfl)
          exact ⟨_, f1, b + 1, rfl, by omega, rfl, by rw [f2], by first | omega | (dsimp only; omega)⟩
        · obtain rfl : b = X.evs.length := by omega
          have hb1 : ¬ ((X.evs.length : Int) < X.evs.length) := by omega
          simp (disch := omega) only [wp, Nat.reduceAdd, Nat.reduceMul, Nat.reduceSub, gl, ml, e1, e2, e3, e7, e8, e9, hg, hm, hb1, hwa]
          exact ⟨X.evs.length - (a + 1), by omega, a + 1, rfl, by omega, rfl, by rw [stM_row], by first | omega | (dsimp only; omega)⟩
    · obtain rfl : a = X.evs.length := by omega
      have ha1 : ¬ ((X.evs.length : Int) < X.evs.length) := by omega
      simp (disch := omega) only [wp, Nat.reduceAdd, Nat.reduceMul, Nat.reduceSub, gl, ml, e1, e2, e3, e7, e8, hg, hm, ha1, fin0]
      exact ⟨_, rfl, hm⟩
set_option maxRecDepth 100000 in
theorem sp_mInner (h74 : F 74 = some A_xref09_Inner) (h85 : F 85 = some A_xref09_part) (h27 : F 27 = some A_xref01_New) {X : Gr} (hn : X.evs.length ≤ 40) (A : Mx) : pureS F 74 [.agg (grC X), .ptr (matC X.evs.length A)] = some (.ptr (matC X.evs.length (prtM X true A))) := by
  refine pure_of h74 ?_
  simp (disch := omega) only [A_xref09_Inner, wp, Nat.reduceAdd, Nat.reduceMul, Nat.reduceSub, gl, sp_mpart h85 h27 hn]
set_option maxRecDepth 100000 in
theorem sp_mOuter (h75 : F 75 = some A_xref09_Outer) (h85 : F 85 = some A_xref09_part) (h27 : F 27 = some A_xref01_New) {X : Gr} (hn : X.evs.length ≤ 40) (A : Mx) : pureS F 75 [.agg (grC X), .ptr (matC X.evs.length A)] = some (.ptr (matC X.evs.length (prtM X false A))) := by
  refine pure_of h75 ?_
  simp (disch := omega) only [A_xref09_Outer, wp, Nat.reduceAdd, Nat.reduceMul, Nat.reduceSub, gl, sp_mpart h85 h27 hn]
end Go.Ab
end
section
set_option linter.unusedVariables false
set_option linter.unusedSimpArgs false
namespace Go.Ab
variable {F : Funs}
theorem GraphOk.nOf {X : Gr} (h : GraphOk X) : nOf X = X.evs.length := by
  have := h.n40
  unfold Go.Ab.nOf clamp; omega
theorem hb_newM {n : Nat} (hn : n ≤ 40) (L : List (Int × Int)) {a b : Nat} (ha : a < n) (hb' : b < n) : hb (newR n L) a b = anyM L a b := by
  rw [hb_new hn, decide_eq_true ha, decide_eq_true hb', Bool.true_and, Bool.true_and]; rfl
section
variable {X : Gr} (h : GraphOk X)
include h
theorem GraphOk.rfr (i : Nat) (hi : i < X.evs.length) : (0 ≤ X.rf.getD i 0 ↔ (X.evs.getD i ev0).kd = 1) ∧ X.rf.getD i 0 < X.evs.length := by
  obtain ⟨h1, h2⟩ := h.rf i hi
  by_cases hk : (X.evs.getD i ev0).kd = 1
  · obtain ⟨h3, h4, _⟩ := h2 hk
    exact ⟨⟨fun _ => hk, fun _ => h3⟩, h4⟩
  · have := h1 hk
    exact ⟨⟨fun h => by omega, fun h => absurd h hk⟩, by omega⟩
theorem GraphOk.cor (j : Nat) (hj : j < X.co.length) (i : Nat) (hi : i < (X.co.getD j []).length) : 0 ≤ (X.co.getD j []).getD i 0 ∧ (X.co.getD j []).getD i 0 < X.evs.length ∧ (X.evs.getD ((X.co.getD j []).getD i 0).toNat ev0).kd = 2 := by
  obtain ⟨h1, h2, h3, _⟩ := (h.co j hj).wr i hi
  exact ⟨h1, h2, h3⟩
end
end Go.Ab
end
section
set_option linter.unusedVariables false
set_option linter.unusedSimpArgs false
namespace Go.Ab
variable {F : Funs}
def setL (X : Gr) (p : Ev → Bool) (k : Nat) : List (Int × Int) := (List.range k).flatMap fun (i : Nat) => if p (X.evs.getD i ev0) then [((i : Int), (i : Int))] else []
theorem setL_succ (X p k) : setL X p (k + 1) = setL X p k ++ (if p (X.evs.getD k ev0) then [((k : Int), (k : Int))] else []) := by simp [setL, List.range_succ]
theorem setL_len (X p k) : (setL X p k).length ≤ k := by
  induction k with
  | zero => simp [setL]
  | succ k ih => rw [setL_succ, List.length_append]; split <;> simp <;> omega
theorem mem_setL {X : Gr} {p : Ev → Bool} {k a b : Nat} : ((a : Int), (b : Int)) ∈ setL X p k ↔ a = b ∧ a < k ∧ p (X.evs.getD a ev0) = true := by
  unfold setL
  simp only [List.mem_flatMap, List.mem_range]
  constructor
  · rintro ⟨i, hi, h⟩
    by_cases hp : p (X.evs.getD i ev0) = true
    · rw [if_pos hp, List.mem_singleton, Prod.mk.injEq] at h
      have e1 : a = i := by omega
      have e2 : b = i := by omega
      subst e1 e2
      exact ⟨rfl, hi, hp⟩
    · rw [if_neg hp] at h; cases h
  · rintro ⟨rfl, hk, hp⟩
    exact ⟨a, hk, by rw [if_pos hp]; exact List.mem_singleton.2 rfl⟩
def setR (X : Gr) (p : Ev → Bool) : Rw := newR (nOf X) (setL X p X.evs.length)
def kindK (X : Gr) (q : Ev → Bool) (k : Nat) : Mx := fun a b => decide (a = b) && (decide (a < k) && q (X.evs.getD a ev0))
theorem kindK_succ (X q k) : upd2 (kindK X q k) k k (q (X.evs.getD k ev0)) = kindK X q (k + 1) := by
  funext i j
  unfold upd2 kindK
  by_cases h : i = k ∧ j = k
  · obtain ⟨rfl, rfl⟩ := h
    rw [if_pos ⟨rfl, rfl⟩]; simp
  · rw [if_neg h]
    by_cases hij : i = j
    · have : decide (i < k) = decide (i < k + 1) := by rw [decide_eq_decide]; omega
      rw [this]
    · rw [decide_eq_false hij]; rfl
theorem kindK_0 (X q) : kindK X q 0 = fun _ _ => false := by funext i j; simp [kindK]
section
variable {X : Gr} (h : GraphOk X)
include h
theorem EqN.set {p q : Ev → Bool} (hq : ∀ i, i < X.evs.length → p (X.evs.getD i ev0) = q (X.evs.getD i ev0)) : EqN X.evs.length (kindK X q X.evs.length) (setR X p) := by
  unfold setR
  rw [h.nOf]
  refine ⟨wf_new h.n40 _, fun a b ha hb' => ?_⟩
  rw [hb_newM h.n40 _ ha hb', Bool.eq_iff_iff, anyM_mem, mem_setL]
  unfold kindK
  simp only [Bool.and_eq_true, decide_eq_true_eq, hq a ha]
end
end Go.Ab
end
section
set_option linter.unusedVariables false
set_option linter.unusedSimpArgs false
namespace Go.Ab
variable {F : Funs}
theorem o_boxI {c : CS} {al : Nat → Bool} {lo id : Nat} {e : Env} {g : G} (x) : opE c al lo id (.boxI x) e g = vBoxI (x.ev e) g := rfl
noncomputable def bxiD (x : Bool) (cs : Option (List AV)) (g : G) : Option (AV × G) := if x then vMapL .ptr g cs else none
theorem vBoxI_S (v g) : vBoxI v g = bxiD ((cellsOf v).all one) (frzL (fun _ => none) depth (cellsOf v)) g := rfl
theorem bxiD_ok (cs g) : bxiD true cs g = vMapL .ptr g cs := rfl
theorem frzL_gr (hp) (X : Gr) : frzL hp depth (grC X) = some (grC X) := by
  show frzL hp (8 + 1) _ = _
  simp only [grC, frzL, frz]
set_option maxRecDepth 100000 in
set_option maxHeartbeats 4000000 in
theorem sp_setE (h166 : F 166 = some A_graph_Set) (h81 : F 81 = some A_graph_Of) (pr : Pk_rel F) {X : Gr} (hX : X.evs.length ≤ 1000) {fid : Nat} {caps : List AV} {p : Ev → Bool} (hp : ∀ e, pureS F fid (.agg (evC e) :: caps) = some (.b (p e)))
    (hc : ∀ hp, frzL hp depth caps = some caps) (hv : ∀ hp, caps.flatMap (vis hp depth) = []) : pureS F 166 [.agg (grC X), .fn fid [] caps] = some (.ptr (relC (nOf X) (setR X p))) := by
  refine pure_of h166 ?_
  simp (disch := omega) only [A_graph_Set, wp, Nat.reduceAdd, Nat.reduceMul, Nat.reduceSub, gl]
  refine W_loop (fun q e g => ∃ k t, q = X.evs.length - k ∧ k ≤ X.evs.length ∧ e 2 = .mp 0 0 ∧ e 5 = .sl (pairsC (setL X p k)) (setL X p k).length t ∧ e 6 = .mp 5 0 ∧ e 12 = .sl (evsC X.evs) X.evs.length .non ∧ e 13 = .i .i64 X.evs.length ∧ e 14 = .i .i64 k ∧ Live g 2 t ∧ g.hp 0 = some (.cells (grC X) false) ∧ g.hp 5 = some (.cells [.fn fid [] caps] false) ∧ 5 < g.nx) X.evs.length ?_ ?_
  · refine ⟨0, .rig, rfl, Nat.zero_le _, ?_⟩
    simp (disch := omega) only [wp, Nat.reduceAdd, Nat.reduceMul, Nat.reduceSub]
    exact ⟨by rfl, rfl, .inl rfl, by first | omega | (dsimp only; omega)⟩
  · rintro q e g ⟨k, t, rfl, hk, e2, e5, e6, e12, e13, e14, L, hg, hf, hnx⟩
    by_cases hk' : k < X.evs.length
    · have hk1 : (k : Int) < X.evs.length := by omega
      have hwk := succ_wrap (k := k) (by omega)
      have hev := ev_part hk'
      have hs := setL_succ X p k
      have hl := setL_len X p k
      generalize X.evs.getD k ev0 = ev at hev hs
      have hpe := hp ev
      generalize setL X p k = B at e5 hs hl
      cases hb : p ev with
      | true =>
        rw [hb] at hpe
        rw [hb, if_pos rfl] at hs
        rcases L with rfl | ⟨τ, rfl, hτ, hlt⟩
        · simp (disch := omega) only [wp, Nat.reduceAdd, Nat.reduceMul, Nat.reduceSub, gl, e2, e5, e6, e12, e13, e14, hg, hf, hk1, hev, hc, hv, hpe, pairsC_len, hwk]
          refine ⟨X.evs.length - (k + 1), by omega, k + 1, ?_⟩
          rw [hs, pairsC_app, pairsC_one, List.length_append]
          exact ⟨_, rfl, by omega, rfl, rfl, .inr ⟨_, rfl, upd_same _ _ _, by first | omega | (dsimp only; omega)⟩, by first | omega | (dsimp only; omega)⟩
        · have n0 : τ ≠ 0 := fun h => by rw [h, hg] at hτ; cases hτ
          have n5 : τ ≠ 5 := fun h => by rw [h, hf] at hτ; cases hτ
          simp (disch := omega) only [wp, Nat.reduceAdd, Nat.reduceMul, Nat.reduceSub, gl, e2, e5, e6, e12, e13, e14, hg, hf, hk1, hev, hc, hv, hpe, pairsC_len, hwk, hτ]
          refine ⟨X.evs.length - (k + 1), by omega, k + 1, ?_⟩
          rw [hs, pairsC_app, pairsC_one, List.length_append]
          exact ⟨_, rfl, by omega, rfl, rfl, .inr ⟨_, rfl, upd_same _ _ _, by first | omega | (dsimp only; omega)⟩, by first | omega | (dsimp only; omega)⟩
      | false =>
        rw [hb] at hpe
        rw [hb, if_neg (by simp), List.append_nil] at hs
        simp (disch := omega) only [wp, Nat.reduceAdd, Nat.reduceMul, Nat.reduceSub, gl, e2, e5, e6, e12, e13, e14, hg, hf, hk1, hev, hc, hv, hpe, hwk]
        refine ⟨X.evs.length - (k + 1), by omega, k + 1, t, rfl, by omega, by rw [hs], rfl, ?_, by first | omega | (dsimp only; omega)⟩
        rcases L with rfl | ⟨τ, rfl, hτ, hlt⟩
        · exact .inl rfl
        · exact .inr ⟨τ, rfl, by simp (disch := omega) only [upd_ne]; exact hτ, by first | omega | (dsimp only; omega)⟩
    · obtain rfl : k = X.evs.length := by omega
      have hk1 : ¬ ((X.evs.length : Int) < X.evs.length) := by omega
      have hl := setL_len X p X.evs.length
      have hof := sp_of h81 pr X (setL X p X.evs.length) .non (by omega)
      simp (disch := omega) only [wp, Nat.reduceAdd, Nat.reduceMul, Nat.reduceSub, gl, e2, e5, e6, e12, e13, e14, hg, hf, hk1, hof]
      rfl
def setP (k : Int) (ms : List Int) (e : Ev) : Bool := e.kd == k && (decide (ms = []) || ms.any fun m => e.md == m)
set_option maxRecDepth 100000 in
set_option maxHeartbeats 4000000 in
theorem sp_set1 (h229 : F 229 = some A_sync_set_1) (k : Int) (ms : List Int) (hm : ms.length ≤ 1000) (ev : Ev) : pureS F 229 [.agg (evC ev), .ptr [.sl (intsC ms) ms.length .non], .ptr [.i .i64 k]] = some (.b (setP k ms ev)) := by
  refine pure_of h229 ?_
  have h0 : ((ms.length : Int) == 0) = decide (ms = []) := by
    cases ms with
    | nil => rfl
    | cons a l => simp; omega
  simp (disch := omega) only [A_sync_set_1, wp, Nat.reduceAdd, Nat.reduceMul, Nat.reduceSub, gl, h0]
  refine W_loop (fun q e g => ∃ j, q = ms.length - j ∧ j ≤ ms.length ∧ e 2 = .ptr [.i .i64 k] ∧ e 3 = .mp 0 0 ∧ e 5 = .b (decide (ms = []) || (ms.take j).any fun m => ev.md == m) ∧ e 11 = .sl (intsC ms) ms.length .non ∧ e 12 = .i .i64 ms.length ∧ e 13 = .i .i64 j ∧ g.hp 0 = some (.cells (evC ev) false) ∧ 0 < g.nx) ms.length ?_ ?_
  · refine ⟨0, rfl, Nat.zero_le _, ?_⟩
    simp (disch := omega) only [wp, Nat.reduceAdd, Nat.reduceMul, Nat.reduceSub]
    exact ⟨by simp, rfl, by first | omega | (dsimp only; omega)⟩
  · rintro q e g ⟨j, rfl, hj, e2, e3, e5, e11, e12, e13, hg, hnx⟩
    by_cases hj' : j < ms.length
    · have hj1 : (j : Int) < ms.length := by omega
      have hwj := succ_wrap (k := j) (by omega)
      have hip := ints_part hj'
      have hs : (ms.take (j + 1)).any (fun m => ev.md == m) = ((ms.take j).any (fun m => ev.md == m) || ev.md == ms.getD j 0) := by
        rw [List.take_add_one, List.getElem?_eq_getElem hj', List.any_append, List.getD_eq_getElem?_getD, List.getElem?_eq_getElem hj']
        simp
      generalize ms.getD j 0 = m at hip hs
      cases hb : (decide (ms = []) || (ms.take j).any fun m => ev.md == m) with
      | true =>
        rw [hb] at e5
        simp (disch := omega) only [wp, Nat.reduceAdd, Nat.reduceMul, Nat.reduceSub, gl, e2, e3, e5, e11, e12, e13, hg, hj1, hip, hwj]
        exact ⟨ms.length - (j + 1), by omega, j + 1, rfl, by omega, by rw [hs, ← Bool.or_assoc, hb]; rfl, rfl, by first | omega | (dsimp only; omega)⟩
      | false =>
        rw [hb] at e5
        simp (disch := omega) only [wp, Nat.reduceAdd, Nat.reduceMul, Nat.reduceSub, gl, e2, e3, e5, e11, e12, e13, hg, hj1, hip, hwj]
        exact ⟨ms.length - (j + 1), by omega, j + 1, rfl, by omega, by rw [hs, ← Bool.or_assoc, hb]; rfl, rfl, by first | omega | (dsimp only; omega)⟩
    · obtain rfl : j = ms.length := by omega
      have hj1 : ¬ ((ms.length : Int) < ms.length) := by omega
      rw [List.take_length] at e5
      unfold setP
      cases hk : (ev.kd == k) with
      | true => simp (disch := omega) only [wp, Nat.reduceAdd, Nat.reduceMul, Nat.reduceSub, gl, e2, e3, e5, e11, e12, e13, hg, hj1, hk]
      | false => simp (disch := omega) only [wp, Nat.reduceAdd, Nat.reduceMul, Nat.reduceSub, gl, e2, e3, e5, e11, e12, e13, hg, hj1, hk]
set_option maxRecDepth 100000 in
theorem sp_setS (h178 : F 178 = some A_sync_set) (h229 : F 229 = some A_sync_set_1) (h166 : F 166 = some A_graph_Set) (h81 : F 81 = some A_graph_Of) (pr : Pk_rel F) {X : Gr} (hX : X.evs.length ≤ 1000) (k : Int) (ms : List Int) (hm : ms.length ≤ 1000) (t : Tok) : pureS F 178 [.agg (grC X), .i .i64 k, .sl (intsC ms) ms.length t] = some (.ptr (relC (nOf X) (setR X (setP k ms)))) := by
  refine pure_of h178 ?_
  have hc : ∀ hp, frzL hp depth [.ptr [.sl (intsC ms) ms.length .non], .ptr [.i .i64 k]] = some [.ptr [.sl (intsC ms) ms.length .non], .ptr [.i .i64 k]] := fun hp => by simp only [frzL_cons, frzL_nil, frz_d_ptr, consO_ok]
  have hv : ∀ hp, [AV.ptr [.sl (intsC ms) ms.length .non], .ptr [.i .i64 k]].flatMap (vis hp depth) = [] := fun hp => by simp only [List.flatMap_cons, List.flatMap_nil, vis_ptr, List.append_nil]
  have hset := sp_setE h166 h81 pr hX (fid := 229) (p := setP k ms) (fun e => sp_set1 h229 k ms hm e) hc hv
  have hfn : ∀ hp, frz hp depth (.fn 229 [] [.ptr [.sl (intsC ms) ms.length .non], .ptr [.i .i64 k]]) = some (.fn 229 [] [.ptr [.sl (intsC ms) ms.length .non], .ptr [.i .i64 k]]) := fun hp => by
    show frz hp (8 + 1) _ = _
    simp only [frz, frzL]
  have hvn : ∀ hp, vis hp depth (.fn 229 [] [.ptr [.sl (intsC ms) ms.length .non], .ptr [.i .i64 k]]) = [] := fun hp => by
    show vis hp (8 + 1) _ = _
    simp only [vis, List.flatMap_cons, List.flatMap_nil, List.append_nil]
  simp (disch := omega) only [A_sync_set, wp, Nat.reduceAdd, Nat.reduceMul, Nat.reduceSub, gl, o_boxI, vBoxI_S, bxiD_ok, frzL_gr, vMapL_some, hfn, hvn, hset]
def relsC (n : Nat) (l : List Rw) : List AV := l.map fun R => .ptr (relC n R)
def thenL (n : Nat) (R : Rw) (l : List Rw) : Rw := l.foldl (fun R S => thenR n R S) R
theorem rels_part {n : Nat} {l : List Rw} {k : Nat} (h : k < l.length) : part ((relsC n l).drop (k * 1)) 0 none = some (.ptr (relC n (l.getD k fun _ => 0))) := by
  simp only [part, relsC, List.getElem?_drop, Nat.mul_one, Nat.add_zero, List.getElem?_map, List.getElem?_eq_getElem h, Option.map_some, List.getD_eq_getElem?_getD, Option.getD_some]
set_option maxRecDepth 100000 in
set_option maxHeartbeats 4000000 in
theorem sp_thenS (h177 : F 177 = some A_sync_then) (pr : Pk_rel F) {n : Nat} (hn : n ≤ 40) (R : Rw) (l : List Rw) (hl : l.length ≤ 1000) (t : Tok) : pureS F 177 [.ptr (relC n R), .sl (relsC n l) l.length t] = some (.ptr (relC n (thenL n R l))) := by
  refine pure_of h177 ?_
  simp (disch := omega) only [A_sync_then, wp, Nat.reduceAdd, Nat.reduceMul, Nat.reduceSub, gl]
  refine W_loop (fun q e g => ∃ k, q = l.length - k ∧ k ≤ l.length ∧ e 0 = .ptr (relC n (thenL n R (l.take k))) ∧ e 7 = .sl (relsC n l) l.length t ∧ e 8 = .i .i64 l.length ∧ e 9 = .i .i64 k) l.length ?_ ?_
  · refine ⟨0, rfl, Nat.zero_le _, ?_⟩
    simp (disch := omega) only [wp, Nat.reduceAdd, Nat.reduceMul, Nat.reduceSub]
    exact ⟨by rfl, rfl⟩
  · rintro q e g ⟨k, rfl, hk, e0, e7, e8, e9⟩
    by_cases hk' : k < l.length
    · have hk1 : (k : Int) < l.length := by omega
      have hwk := succ_wrap (k := k) (by omega)
      have hp := rels_part (n := n) hk'
      have hs : thenL n R (l.take (k + 1)) = thenR n (thenL n R (l.take k)) (l.getD k fun _ => 0) := by
        unfold thenL
        rw [List.take_add_one, List.foldl_append, List.getElem?_eq_getElem hk', List.getD_eq_getElem?_getD, List.getElem?_eq_getElem hk']
        rfl
      generalize thenL n R (l.take k) = A at e0 hs
      generalize (l.getD k fun _ => 0) = B at hp hs
      simp (disch := omega) only [wp, Nat.reduceAdd, Nat.reduceMul, Nat.reduceSub, gl, e0, e7, e8, e9, hk1, hp, sp_then pr hn hn, Nat.max_self, hwk]
      exact ⟨l.length - (k + 1), by omega, k + 1, rfl, by omega, by rw [hs], rfl⟩
    · obtain rfl : k = l.length := by omega
      have hk1 : ¬ ((l.length : Int) < l.length) := by omega
      rw [List.take_length] at e0
      simp (disch := omega) only [wp, Nat.reduceAdd, Nat.reduceMul, Nat.reduceSub, gl, e0, e7, e8, e9, hk1]
end Go.Ab
end
section
set_option linter.unusedVariables false
set_option linter.unusedSimpArgs false
namespace Go.Ab
variable {F : Funs}
theorem sp_then1 (h177 : F 177 = some A_sync_then) (pr : Pk_rel F) {n : Nat} (hn : n ≤ 40) (R S : Rw) : pureS F 177 [.ptr (relC n R), .sl [.ptr (relC n S)] 1 .non] = some (.ptr (relC n (thenR n R S))) := sp_thenS h177 pr hn R [S] (by simp) .non
theorem sp_then2 (h177 : F 177 = some A_sync_then) (pr : Pk_rel F) {n : Nat} (hn : n ≤ 40) (R S T : Rw) : pureS F 177 [.ptr (relC n R), .sl [.ptr (relC n S), .ptr (relC n T)] 2 .non] = some (.ptr (relC n (thenR n (thenR n R S) T))) := sp_thenS h177 pr hn R [S, T] (by simp) .non
section
variable (X : Gr)
def locR : Rw := partR locP X (nOf X) (poR X)
def rfR : Rw := relE rfS X
def RsP : Rw := orR (thenR (nOf X) (thenR (nOf X) (setR X (setP 2 [])) (locR X)) (setR X (setP 2 []))) (thenR (nOf X) (setR X (setP 2 [])) (maybeK (nOf X) (plusR (nOf X) (thenR (nOf X) (thenR (nOf X) (maybeK (nOf X) (locR X)) (rfR X)) (newR (nOf X) X.rmw)))))
def ReleaseP : Rw := thenR (nOf X) (orR (setR X (setP 2 [2])) (thenR (nOf X) (setR X (setP 3 [2, 3, 4])) (poR X))) (RsP X)
def SwP : Rw := thenR (nOf X) (thenR (nOf X) (ReleaseP X) (orR (partR inner X (nOf X) (rfR X)) (thenR (nOf X) (maybeK (nOf X) (locR X)) (partR outer X (nOf X) (rfR X))))) (orR (setR X (setP 1 [1])) (thenR (nOf X) (poR X) (setR X (setP 3 [1, 3, 4]))))
def HbP : Rw := plusR (nOf X) (orR (poR X) (SwP X))
end
structure SyncF (F : Funs) : Prop where
  ps : Pk_sync F
  pe : Pk_eco F
  pr : Pk_rel F
  po : F 60 = some A_graph_Po
  gof : F 81 = some A_graph_Of
  set : F 166 = some A_graph_Set
section
variable (S : SyncF F) {X : Gr} (hX : Few X)
include S hX
theorem sp_setX (k : Int) (ms : List Int) (hm : ms.length ≤ 1000) (t : Tok) : pureS F 178 [.agg (grC X), .i .i64 k, .sl (intsC ms) ms.length t] = some (.ptr (relC (nOf X) (setR X (setP k ms)))) :=
  sp_setS S.ps.sync_set S.ps.sync_set_1 S.set S.gof S.pr (by have := hX.1; omega) k ms hm t
theorem sp_set0 (k : Int) : pureS F 178 [.agg (grC X), .i .i64 k, .sl [] 0 .non] = some (.ptr (relC (nOf X) (setR X (setP k [])))) := sp_setX S hX k [] (by simp) .non
theorem sp_setA (k a : Int) : pureS F 178 [.agg (grC X), .i .i64 k, .sl [.i .i64 a] 1 .non] = some (.ptr (relC (nOf X) (setR X (setP k [a])))) := sp_setX S hX k [a] (by simp) .non
theorem sp_setB (k a b c : Int) : pureS F 178 [.agg (grC X), .i .i64 k, .sl [.i .i64 a, .i .i64 b, .i .i64 c] 3 .non] = some (.ptr (relC (nOf X) (setR X (setP k [a, b, c])))) := sp_setX S hX k [a, b, c] (by simp) .non
theorem sp_locX : pureS F 41 [.agg (grC X)] = some (.ptr (relC (nOf X) (locR X))) := sp_Loc S.pe S.po S.gof S.pr (by have := hX.1; omega)
theorem sp_poX : pureS F 60 [.agg (grC X)] = some (.ptr (relC (nOf X) (poR X))) := sp_Po S.po S.gof S.pr (by have := hX.1; omega)
theorem sp_rfX : pureS F 48 [.agg (grC X)] = some (.ptr (relC (nOf X) (rfR X))) := sp_Rf S.pe S.gof S.pr hX
omit hX in
theorem sp_ofX (l : List (Int × Int)) (hl : l.length ≤ 1000) (t : Tok) : pureS F 81 [.agg (grC X), .sl (pairsC l) l.length t] = some (.ptr (relC (nOf X) (newR (nOf X) l))) := sp_of S.gof S.pr X l t (by omega)
set_option maxRecDepth 100000 in
theorem sp_Rs (hr : X.rmw.length ≤ 1000) : pureS F 179 [.agg (grC X)] = some (.ptr (relC (nOf X) (RsP X))) := by
  refine pure_of S.ps.sync_Rs ?_
  have hn := nOf_le X
  simp (disch := omega) only [A_sync_Rs, wp, Nat.reduceAdd, Nat.reduceMul, Nat.reduceSub, gl, sp_set0 S hX, sp_locX S hX, sp_rfX S hX, sp_ofX S, sp_maybe S.pr hn, sp_then2 S.ps.sync_then S.pr hn, sp_then1 S.ps.sync_then S.pr hn, sp_plus S.pr hn, sp_or S.pr hn hn, Nat.max_self]
  rfl
set_option maxRecDepth 100000 in
theorem sp_Release (hr : X.rmw.length ≤ 1000) : pureS F 149 [.agg (grC X)] = some (.ptr (relC (nOf X) (ReleaseP X))) := by
  refine pure_of S.ps.sync_Release ?_
  have hn := nOf_le X
  simp (disch := omega) only [A_sync_Release, wp, Nat.reduceAdd, Nat.reduceMul, Nat.reduceSub, gl, sp_setA S hX, sp_setB S hX, sp_poX S hX, sp_Rs S hX hr, sp_then2 S.ps.sync_then S.pr hn, sp_then1 S.ps.sync_then S.pr hn, sp_or S.pr hn hn, Nat.max_self]
  rfl
set_option maxRecDepth 100000 in
theorem sp_Sw (hr : X.rmw.length ≤ 1000) : pureS F 176 [.agg (grC X)] = some (.ptr (relC (nOf X) (SwP X))) := by
  refine pure_of S.ps.sync_Sw ?_
  have hn := nOf_le X
  simp (disch := omega) only [A_sync_Sw, wp, Nat.reduceAdd, Nat.reduceMul, Nat.reduceSub, gl, sp_setA S hX, sp_setB S hX, sp_poX S hX, sp_locX S hX, sp_rfX S hX, sp_Inner S.pe S.gof S.pr hn, sp_Outer S.pe S.gof S.pr hn, sp_Release S hX hr, sp_maybe S.pr hn, sp_then2 S.ps.sync_then S.pr hn, sp_then1 S.ps.sync_then S.pr hn, sp_or S.pr hn hn, Nat.max_self]
  rfl
set_option maxRecDepth 100000 in
theorem sp_Hb (hr : X.rmw.length ≤ 1000) : pureS F 148 [.agg (grC X)] = some (.ptr (relC (nOf X) (HbP X))) := by
  refine pure_of S.ps.sync_Hb ?_
  have hn := nOf_le X
  simp (disch := omega) only [A_sync_Hb, wp, Nat.reduceAdd, Nat.reduceMul, Nat.reduceSub, gl, sp_poX S hX, sp_Sw S hX hr, sp_or S.pr hn hn, sp_plus S.pr hn, Nat.max_self]
  rfl
end
end Go.Ab
end
section
set_option linter.unusedVariables false
set_option linter.unusedSimpArgs false
namespace Go.Ab
variable {F : Funs}
def resC (agg : Option Nat) (g : G) : AV → Option AV
  | .mp b off => match g.hp b with
    | some (.cells cs _) => part cs off agg
    | _ => none
  | _ => none
theorem res_cell (n agg e g) : resE [.cell n agg] e g = resC agg g (e n) := by
  simp only [resE, resAll, resOne, resC]
  cases e n <;> try rfl
  rename_i b off
  simp only
  cases g.hp b with
  | none => rfl
  | some bl =>
    cases bl with
    | cells cs ro => simp only; cases part cs off agg <;> rfl
    | map _ => rfl
    | tok _ => rfl
end Go.Ab
end
section
set_option linter.unusedVariables false
set_option linter.unusedSimpArgs false
namespace Go.Ab
structure Q4 where
  ii : Rw
  ic : Rw
  ci : Rw
  cc : Rw
inductive Pp (q : Q4) : Nat → Nat → Nat → Prop
  | b0 {a b} : hb q.ii a b = true → Pp q 0 a b
  | b1 {a b} : hb q.ic a b = true → Pp q 1 a b
  | b2 {a b} : hb q.ci a b = true → Pp q 2 a b
  | b3 {a b} : hb q.cc a b = true → Pp q 3 a b
  | r1 {a b} : Pp q 2 a b → Pp q 0 a b
  | r2 {a c b} : Pp q 1 a c → Pp q 2 c b → Pp q 0 a b
  | r3 {a c b} : Pp q 0 a c → Pp q 0 c b → Pp q 0 a b
  | r4 {a b} : Pp q 0 a b → Pp q 1 a b
  | r5 {a b} : Pp q 3 a b → Pp q 1 a b
  | r6 {a c b} : Pp q 1 a c → Pp q 3 c b → Pp q 1 a b
  | r7 {a c b} : Pp q 0 a c → Pp q 1 c b → Pp q 1 a b
  | r8 {a c b} : Pp q 2 a c → Pp q 0 c b → Pp q 2 a b
  | r9 {a c b} : Pp q 3 a c → Pp q 2 c b → Pp q 2 a b
  | r10 {a b} : Pp q 2 a b → Pp q 3 a b
  | r11 {a c b} : Pp q 2 a c → Pp q 1 c b → Pp q 3 a b
  | r12 {a c b} : Pp q 3 a c → Pp q 3 c b → Pp q 3 a b
structure WfQ (n : Nat) (q : Q4) : Prop where
  ii : Wf n q.ii
  ic : Wf n q.ic
  ci : Wf n q.ci
  cc : Wf n q.cc
structure LeQ (q p : Q4) : Prop where
  ii : ∀ a b, hb q.ii a b = true → hb p.ii a b = true
  ic : ∀ a b, hb q.ic a b = true → hb p.ic a b = true
  ci : ∀ a b, hb q.ci a b = true → hb p.ci a b = true
  cc : ∀ a b, hb q.cc a b = true → hb p.cc a b = true
theorem LeQ.refl (q : Q4) : LeQ q q := ⟨fun _ _ h => h, fun _ _ h => h, fun _ _ h => h, fun _ _ h => h⟩
theorem LeQ.trans {p q r : Q4} (h : LeQ p q) (k : LeQ q r) : LeQ p r := ⟨fun a b x => k.ii a b (h.ii a b x), fun a b x => k.ic a b (h.ic a b x), fun a b x => k.ci a b (h.ci a b x), fun a b x => k.cc a b (h.cc a b x)⟩
structure InP (q0 q : Q4) : Prop where
  ii : ∀ a b, hb q.ii a b = true → Pp q0 0 a b
  ic : ∀ a b, hb q.ic a b = true → Pp q0 1 a b
  ci : ∀ a b, hb q.ci a b = true → Pp q0 2 a b
  cc : ∀ a b, hb q.cc a b = true → Pp q0 3 a b
theorem InP.base (q : Q4) : InP q q := ⟨fun _ _ h => .b0 h, fun _ _ h => .b1 h, fun _ _ h => .b2 h, fun _ _ h => .b3 h⟩
section
variable {n : Nat} {q : Q4} (w : WfQ n q)
include w
end
end Go.Ab
end
section
namespace Go.Ab
def A_ppo_Ppo : AFun := { res := [.t 2], body := (.seq (.reg false [{ dst := some 1, op := .box (.t 0) },
  { dst := some 2, op := .mv (.c (.nilp)) }])
 (.seq (.reg false [{ dst := some 10, op := .ld (some 8) (.t 1) },
  { dst := some 11, op := .call .pure (.c (.fn 165 [] [])) [.t 10] },
  { dst := some 9, op := .mv (.t 11) },
  { dst := some 12, op := .ext 0 (.t 9) },
  { dst := some 13, op := .ext 1 (.t 9) },
  { dst := some 14, op := .ext 2 (.t 9) },
  { dst := some 15, op := .ext 3 (.t 9) },
  { dst := some 3, op := .mv (.t 12) },
  { dst := some 4, op := .mv (.t 13) },
  { dst := some 5, op := .mv (.t 14) },
  { dst := some 6, op := .mv (.t 15) }])
 (.seq (.reg true [{ dst := some 16, op := .ld (some 8) (.t 1), pre := [] },
  { dst := some 17, op := .call .pure (.c (.fn 166 [] [])) [.t 16, .c (.fn 167 [] [])], pre := [] },
  { dst := some 18, op := .ld (some 8) (.t 1), pre := [] },
  { dst := some 19, op := .call .pure (.c (.fn 166 [] [])) [.t 18, .c (.fn 168 [] [])], pre := [] },
  { dst := some 7, op := .mv (.t 17) },
  { dst := some 8, op := .mv (.t 19) }])
 (.seq (.reg false [{ dst := some 20, op := .mv (.t 7) },
  { dst := some 21, op := .mv (.t 3) },
  { dst := some 22, op := .call .pure (.c (.fn 23 [] [])) [.t 20, .t 21] },
  { dst := some 23, op := .mv (.t 7) },
  { dst := some 24, op := .call .pure (.c (.fn 23 [] [])) [.t 22, .t 23] },
  { dst := some 25, op := .mv (.t 7) },
  { dst := some 26, op := .mv (.t 4) },
  { dst := some 27, op := .call .pure (.c (.fn 23 [] [])) [.t 25, .t 26] },
  { dst := some 28, op := .mv (.t 8) },
  { dst := some 29, op := .call .pure (.c (.fn 23 [] [])) [.t 27, .t 28] },
  { dst := some 30, op := .call .pure (.c (.fn 24 [] [])) [.t 24, .t 29] },
  { dst := some 2, op := .mv (.t 30) }])
 .ret)))) }
def A_ppo_Rdw : AFun := { res := [.t 2], body := (.seq (.reg false [{ dst := some 1, op := .box (.t 0) },
  { dst := some 2, op := .mv (.c (.nilp)) }])
 (.seq (.reg true [{ dst := some 3, op := .ld (some 8) (.t 1), pre := [] },
  { dst := some 4, op := .ld (some 8) (.t 1), pre := [] },
  { dst := some 5, op := .call .pure (.c (.fn 50 [] [])) [.t 4], pre := [] },
  { dst := some 6, op := .call .pure (.c (.fn 170 [] [])) [.t 3, .t 5], pre := [] },
  { dst := some 2, op := .mv (.t 6) }])
 .ret)) }
def A_ppo_Detour : AFun := { res := [.t 2], body := (.seq (.reg false [{ dst := some 1, op := .box (.t 0) },
  { dst := some 2, op := .mv (.c (.nilp)) }])
 (.seq (.reg true [{ dst := some 3, op := .ld (some 8) (.t 1), pre := [] },
  { dst := some 4, op := .ld (some 8) (.t 1), pre := [] },
  { dst := some 5, op := .call .pure (.c (.fn 49 [] [])) [.t 4], pre := [] },
  { dst := some 6, op := .call .pure (.c (.fn 170 [] [])) [.t 3, .t 5], pre := [] },
  { dst := some 2, op := .mv (.t 6) }])
 .ret)) }
def A_ppo_Parts : AFun := { res := [.t 2, .t 3, .t 4, .t 5], body := (.seq (.reg false [{ dst := some 1, op := .box (.t 0) },
  { dst := some 2, op := .mv (.c (.nilp)) },
  { dst := some 3, op := .mv (.c (.nilp)) },
  { dst := some 4, op := .mv (.c (.nilp)) },
  { dst := some 5, op := .mv (.c (.nilp)) }])
 (.scp (.seq (.reg false [{ dst := some 14, op := .ld (some 8) (.t 1) },
  { dst := some 15, op := .call .pure (.c (.fn 166 [] [])) [.t 14, .c (.fn 219 [] [])] },
  { dst := some 6, op := .mv (.t 15) }])
 (.seq (.reg true [{ dst := some 16, op := .ld (some 8) (.t 1), pre := [] },
  { dst := some 17, op := .fa 5 (.t 1) },
  { dst := some 18, op := .ld none (.t 17), pre := [] },
  { dst := some 19, op := .call .pure (.c (.fn 81 [] [])) [.t 16, .t 18], pre := [] },
  { dst := some 20, op := .ld (some 8) (.t 1), pre := [] },
  { dst := some 21, op := .fa 6 (.t 1) },
  { dst := some 22, op := .ld none (.t 21), pre := [] },
  { dst := some 23, op := .call .pure (.c (.fn 81 [] [])) [.t 20, .t 22], pre := [] },
  { dst := some 24, op := .mv (.t 6) },
  { dst := some 25, op := .call .pure (.c (.fn 23 [] [])) [.t 23, .t 24], pre := [] },
  { dst := some 26, op := .ld (some 8) (.t 1), pre := [] },
  { dst := some 27, op := .fa 7 (.t 1) },
  { dst := some 28, op := .ld none (.t 27), pre := [] },
  { dst := some 29, op := .call .pure (.c (.fn 81 [] [])) [.t 26, .t 28], pre := [] },
  { dst := some 30, op := .mv (.t 6) },
  { dst := some 31, op := .call .pure (.c (.fn 23 [] [])) [.t 29, .t 30], pre := [] },
  { dst := some 7, op := .mv (.t 19) },
  { dst := some 8, op := .mv (.t 25) },
  { dst := some 9, op := .mv (.t 31) }])
 (.seq (.reg true [{ dst := some 32, op := .mv (.t 7) },
  { dst := some 33, op := .ld (some 8) (.t 1), pre := [] },
  { dst := some 34, op := .call .pure (.c (.fn 145 [] [])) [.t 33], pre := [] },
  { dst := some 35, op := .ld (some 8) (.t 1), pre := [] },
  { dst := some 36, op := .ld (some 8) (.t 1), pre := [] },
  { dst := some 37, op := .call .pure (.c (.fn 48 [] [])) [.t 36], pre := [] },
  { dst := some 38, op := .call .pure (.c (.fn 39 [] [])) [.t 35, .t 37], pre := [] },
  { dst := some 39, op := .bsl true 2 ([.nilp, .nilp]) [(0, 1, .t 34), (1, 1, .t 38)], pre := [] },
  { dst := some 40, op := .call .pure (.c (.fn 220 [] [])) [.t 32, .t 39], pre := [] },
  { dst := some 2, op := .mv (.t 40) }])
 (.seq (.reg false [{ dst := some 41, op := .fa 1 (.t 1) },
  { dst := some 42, op := .ld none (.t 41) },
  { dst := some 43, op := .len (.t 42) },
  { dst := some 44, op := .call .pure (.c (.fn 11 [] [])) [.t 43, .c (.sl [] 0 .rig)] },
  { dst := some 3, op := .mv (.t 44) }])
 (.seq (.reg false [{ dst := some 45, op := .mv (.t 9) },
  { dst := some 46, op := .ld (some 8) (.t 1) },
  { dst := some 47, op := .call .pure (.c (.fn 146 [] [])) [.t 46] },
  { dst := some 48, op := .bsl true 1 ([.nilp]) [(0, 1, .t 47)] },
  { dst := some 49, op := .call .pure (.c (.fn 220 [] [])) [.t 45, .t 48] },
  { dst := some 4, op := .mv (.t 49) }])
 (.seq (.reg false [{ dst := some 50, op := .mv (.t 7) },
  { dst := some 51, op := .ld (some 8) (.t 1) },
  { dst := some 52, op := .call .pure (.c (.fn 221 [] [])) [.t 51] },
  { dst := some 53, op := .mv (.t 8) },
  { dst := some 54, op := .bsl true 2 ([.nilp, .nilp]) [(0, 1, .t 52), (1, 1, .t 53)] },
  { dst := some 55, op := .call .pure (.c (.fn 220 [] [])) [.t 50, .t 54] },
  { dst := some 5, op := .mv (.t 55) }])
 (.seq .lab
 (.seq (.blk 0 (.loop (.blk 1 (.seq (.reg false [{ dst := some 56, op := .mv (.t 2) },
  { dst := some 57, op := .mv (.t 4) },
  { dst := some 58, op := .mv (.t 3) },
  { dst := some 59, op := .mv (.t 4) },
  { dst := some 60, op := .call .pure (.c (.fn 23 [] [])) [.t 58, .t 59] },
  { dst := some 61, op := .mv (.t 2) },
  { dst := some 62, op := .mv (.t 2) },
  { dst := some 63, op := .call .pure (.c (.fn 23 [] [])) [.t 61, .t 62] },
  { dst := some 64, op := .bsl true 3 ([.nilp, .nilp, .nilp]) [(0, 1, .t 57), (1, 1, .t 60), (2, 1, .t 63)] },
  { dst := some 65, op := .call .pure (.c (.fn 220 [] [])) [.t 56, .t 64] },
  { dst := some 10, op := .mv (.t 65) }])
 (.seq (.reg false [{ dst := some 66, op := .mv (.t 3) },
  { dst := some 67, op := .mv (.t 2) },
  { dst := some 68, op := .mv (.t 5) },
  { dst := some 69, op := .mv (.t 3) },
  { dst := some 70, op := .mv (.t 5) },
  { dst := some 71, op := .call .pure (.c (.fn 23 [] [])) [.t 69, .t 70] },
  { dst := some 72, op := .mv (.t 2) },
  { dst := some 73, op := .mv (.t 3) },
  { dst := some 74, op := .call .pure (.c (.fn 23 [] [])) [.t 72, .t 73] },
  { dst := some 75, op := .bsl true 4 (List.replicate 4 (.nilp)) [(0, 1, .t 67), (1, 1, .t 68), (2, 1, .t 71), (3, 1, .t 74)] },
  { dst := some 76, op := .call .pure (.c (.fn 220 [] [])) [.t 66, .t 75] },
  { dst := some 11, op := .mv (.t 76) }])
 (.seq (.reg false [{ dst := some 77, op := .mv (.t 4) },
  { dst := some 78, op := .mv (.t 4) },
  { dst := some 79, op := .mv (.t 2) },
  { dst := some 80, op := .call .pure (.c (.fn 23 [] [])) [.t 78, .t 79] },
  { dst := some 81, op := .mv (.t 5) },
  { dst := some 82, op := .mv (.t 4) },
  { dst := some 83, op := .call .pure (.c (.fn 23 [] [])) [.t 81, .t 82] },
  { dst := some 84, op := .bsl true 2 ([.nilp, .nilp]) [(0, 1, .t 80), (1, 1, .t 83)] },
  { dst := some 85, op := .call .pure (.c (.fn 220 [] [])) [.t 77, .t 84] },
  { dst := some 12, op := .mv (.t 85) }])
 (.seq (.reg false [{ dst := some 86, op := .mv (.t 5) },
  { dst := some 87, op := .mv (.t 4) },
  { dst := some 88, op := .mv (.t 4) },
  { dst := some 89, op := .mv (.t 3) },
  { dst := some 90, op := .call .pure (.c (.fn 23 [] [])) [.t 88, .t 89] },
  { dst := some 91, op := .mv (.t 5) },
  { dst := some 92, op := .mv (.t 5) },
  { dst := some 93, op := .call .pure (.c (.fn 23 [] [])) [.t 91, .t 92] },
  { dst := some 94, op := .bsl true 3 ([.nilp, .nilp, .nilp]) [(0, 1, .t 87), (1, 1, .t 90), (2, 1, .t 93)] },
  { dst := some 95, op := .call .pure (.c (.fn 220 [] [])) [.t 86, .t 94] },
  { dst := some 13, op := .mv (.t 95) }])
 (.seq (.seq (.reg false [{ dst := some 96, op := .mv (.t 10) },
  { dst := some 97, op := .mv (.t 2) },
  { dst := some 98, op := .call .pure (.c (.fn 22 [] [])) [.t 96, .t 97] },
  { dst := some 99, op := .mv (.t 98) },
  { dst := some 100, op := .mv (.t 11), grd := some (99, true) },
  { dst := some 101, op := .mv (.t 3), grd := some (99, true) },
  { dst := some 102, op := .call .pure (.c (.fn 22 [] [])) [.t 100, .t 101], grd := some (99, true) },
  { dst := some 103, op := .pick (.t 99) (.t 102) (.c (.b false)) },
  { dst := some 104, op := .mv (.t 103) },
  { dst := some 105, op := .mv (.t 12), grd := some (104, true) },
  { dst := some 106, op := .mv (.t 4), grd := some (104, true) },
  { dst := some 107, op := .call .pure (.c (.fn 22 [] [])) [.t 105, .t 106], grd := some (104, true) },
  { dst := some 108, op := .pick (.t 104) (.t 107) (.c (.b false)) },
  { dst := some 109, op := .mv (.t 108) },
  { dst := some 110, op := .mv (.t 13), grd := some (109, true) },
  { dst := some 111, op := .mv (.t 5), grd := some (109, true) },
  { dst := some 112, op := .call .pure (.c (.fn 22 [] [])) [.t 110, .t 111], grd := some (109, true) },
  { dst := some 113, op := .pick (.t 109) (.t 112) (.c (.b false)) }])
 (.cond (.t 113) (.ext 0)
 .skip))
 (.reg false [{ dst := some 114, op := .mv (.t 10) },
  { dst := some 115, op := .mv (.t 11) },
  { dst := some 116, op := .mv (.t 12) },
  { dst := some 117, op := .mv (.t 13) },
  { dst := some 2, op := .mv (.t 114) },
  { dst := some 3, op := .mv (.t 115) },
  { dst := some 4, op := .mv (.t 116) },
  { dst := some 5, op := .mv (.t 117) }])))))))))
 (.seq (.reg false [{ dst := some 118, op := .mv (.t 2) },
  { dst := some 119, op := .mv (.t 3) },
  { dst := some 120, op := .mv (.t 4) },
  { dst := some 121, op := .mv (.t 5) },
  { dst := some 2, op := .mv (.t 118) },
  { dst := some 3, op := .mv (.t 119) },
  { dst := some 4, op := .mv (.t 120) },
  { dst := some 5, op := .mv (.t 121) }])
 .ret))))))))))) }
def A_ppo_isR : AFun := { res := [.t 2], body := (.seq (.reg false [{ dst := some 1, op := .box (.t 0) },
  { dst := some 2, op := .mv (.c (.b false)) }])
 (.seq (.reg false [{ dst := some 3, op := .fa 1 (.t 1) },
  { dst := some 4, op := .ld none (.t 3) },
  { dst := some 5, op := .bin .eql (.t 4) (.c (.i .i64 1)) },
  { dst := some 2, op := .mv (.t 5) }])
 .ret)) }
def A_ppo_isW : AFun := { res := [.t 2], body := (.seq (.reg false [{ dst := some 1, op := .box (.t 0) },
  { dst := some 2, op := .mv (.c (.b false)) }])
 (.seq (.reg false [{ dst := some 3, op := .fa 1 (.t 1) },
  { dst := some 4, op := .ld none (.t 3) },
  { dst := some 5, op := .bin .eql (.t 4) (.c (.i .i64 2)) },
  { dst := some 2, op := .mv (.t 5) }])
 .ret)) }
def A_ppo_by : AFun := { res := [.t 4], body := (.seq (.reg false [{ dst := some 2, op := .box (.t 0) },
  { dst := some 4, op := .mv (.c (.nilp)) }])
 (.seq (.reg true [{ dst := some 5, op := .ld (some 8) (.t 2), pre := [] },
  { dst := some 6, op := .call .pure (.c (.fn 221 [] [])) [.t 5], pre := [] },
  { dst := some 7, op := .ld (some 8) (.t 2), pre := [] },
  { dst := some 8, op := .mv (.t 1) },
  { dst := some 9, op := .call .pure (.c (.fn 40 [] [])) [.t 7, .t 8], pre := [] },
  { dst := some 10, op := .ld (some 8) (.t 2), pre := [] },
  { dst := some 11, op := .ld (some 8) (.t 2), pre := [] },
  { dst := some 12, op := .call .pure (.c (.fn 48 [] [])) [.t 11], pre := [] },
  { dst := some 13, op := .call .pure (.c (.fn 40 [] [])) [.t 10, .t 12], pre := [] },
  { dst := some 14, op := .call .pure (.c (.fn 23 [] [])) [.t 9, .t 13], pre := [] },
  { dst := some 15, op := .call .pure (.c (.fn 18 [] [])) [.t 6, .t 14], pre := [] },
  { dst := some 4, op := .mv (.t 15) }])
 .ret)) }
def A_ppo_isM : AFun := { res := [.t 2], body := (.seq (.reg false [{ dst := some 1, op := .box (.t 0) },
  { dst := some 2, op := .mv (.c (.b false)) }])
 (.seq (.reg false [{ dst := some 3, op := .fa 1 (.t 1) },
  { dst := some 4, op := .ld none (.t 3) },
  { dst := some 5, op := .bin .eql (.t 4) (.c (.i .i64 1)) },
  { dst := some 6, op := .mv (.t 5) },
  { dst := some 7, op := .fa 1 (.t 1), grd := some (6, false) },
  { dst := some 8, op := .ld none (.t 7), grd := some (6, false) },
  { dst := some 9, op := .bin .eql (.t 8) (.c (.i .i64 2)), grd := some (6, false) },
  { dst := some 10, op := .pick (.t 6) (.c (.b true)) (.t 9) },
  { dst := some 2, op := .mv (.t 10) }])
 .ret)) }
def A_ppo_or : AFun := { res := [.t 4], body := (.seq (.reg false [{ dst := some 4, op := .mv (.c (.nilp)) }])
 (.seq (.seq (.reg false [{ dst := some 7, op := .mv (.t 1) },
  { dst := some 8, op := .len (.t 7) },
  { dst := some 9, op := .mv (.c (.i .i64 0)) }])
 (.blk 0 (.loop (.seq (.reg false [{ dst := some 10, op := .bin .lss (.t 9) (.t 8) }])
 (.seq (.cond (.t 10) .skip
 (.ext 0))
 (.seq (.blk 1 (.seq (.reg false [{ dst := some 11, op := .ia 1 (.t 7) (.t 9) },
  { dst := some 12, op := .ld none (.t 11) },
  { dst := some 6, op := .mv (.t 12) }])
 (.reg false [{ dst := some 13, op := .mv (.t 0) },
  { dst := some 14, op := .mv (.t 6) },
  { dst := some 15, op := .call .pure (.c (.fn 24 [] [])) [.t 13, .t 14] },
  { dst := some 0, op := .mv (.t 15) }])))
 (.reg false [{ dst := some 16, op := .bin .add (.t 9) (.c (.i .i64 1)) },
  { dst := some 9, op := .mv (.t 16) }])))))))
 (.seq (.reg false [{ dst := some 17, op := .mv (.t 0) },
  { dst := some 4, op := .mv (.t 17) }])
 .ret))) }
def A_ppo_ploc : AFun := { res := [.t 2], body := (.seq (.reg false [{ dst := some 1, op := .box (.t 0) },
  { dst := some 2, op := .mv (.c (.nilp)) }])
 (.seq (.reg false [{ dst := some 4, op := .ld (some 8) (.t 1) },
  { dst := some 5, op := .call .pure (.c (.fn 166 [] [])) [.t 4, .c (.fn 246 [] [])] },
  { dst := some 3, op := .mv (.t 5) }])
 (.seq (.reg true [{ dst := some 6, op := .mv (.t 3) },
  { dst := some 7, op := .ld (some 8) (.t 1), pre := [] },
  { dst := some 8, op := .ld (some 8) (.t 1), pre := [] },
  { dst := some 9, op := .call .pure (.c (.fn 41 [] [])) [.t 8], pre := [] },
  { dst := some 10, op := .call .pure (.c (.fn 39 [] [])) [.t 7, .t 9], pre := [] },
  { dst := some 11, op := .call .pure (.c (.fn 23 [] [])) [.t 6, .t 10], pre := [] },
  { dst := some 2, op := .mv (.t 11) }])
 .ret))) }
def A_ppo_ploc_1 : AFun := { res := [.t 2], body := (.seq (.reg false [{ dst := some 1, op := .box (.t 0) },
  { dst := some 2, op := .mv (.c (.b false)) }])
 (.seq (.reg false [{ dst := some 3, op := .fa 0 (.t 1) },
  { dst := some 4, op := .ld none (.t 3) },
  { dst := some 5, op := .bin .neq (.t 4) (.c (.i .i64 0)) },
  { dst := some 2, op := .mv (.t 5) }])
 .ret)) }
structure Pk_ppo (F : Funs) : Prop where
  ppo_Ppo : F 143 = some A_ppo_Ppo
  ppo_Rdw : F 145 = some A_ppo_Rdw
  ppo_Detour : F 146 = some A_ppo_Detour
  ppo_Parts : F 165 = some A_ppo_Parts
  ppo_isR : F 167 = some A_ppo_isR
  ppo_isW : F 168 = some A_ppo_isW
  ppo_by : F 170 = some A_ppo_by
  ppo_isM : F 219 = some A_ppo_isM
  ppo_or : F 220 = some A_ppo_or
  ppo_ploc : F 221 = some A_ppo_ploc
  ppo_ploc_1 : F 246 = some A_ppo_ploc_1
end Go.Ab
end
section
set_option linter.unusedVariables false
set_option linter.unusedSimpArgs false
namespace Go.Ab
variable {F : Funs}
structure PpoF (F : Funs) : Prop where
  pp : Pk_ppo F
  pe : Pk_eco F
  pr : Pk_rel F
  po : F 60 = some A_graph_Po
  gof : F 81 = some A_graph_Of
  set : F 166 = some A_graph_Set
  ls : RelLs F
section
variable (X : Gr)
end
def orL (R : Rw) (l : List Rw) : Rw := l.foldl orR R
section
variable (S : PpoF F)
include S
variable {X : Gr} (hX : Few X)
include hX
end
end Go.Ab
end
section
set_option linter.unusedVariables false
set_option linter.unusedSimpArgs false
namespace Go.Ab
variable {F : Funs}
structure OrdF (F : Funs) : Prop where
  po : Pk_order F
  sy : SyncF F
def oR (e : Ev) : Bool := e.kd == 1
def oW (e : Ev) : Bool := e.kd == 2
def oF (e : Ev) : Bool := e.kd == 3
def oRel (e : Ev) : Bool := e.kd == 2 && e.md == 2
def oAcq (e : Ev) : Bool := e.kd == 1 && e.md == 1
def oSc (e : Ev) : Bool := e.kd == 3 && e.md == 4
def oEx (e : Ev) : Bool := e.kd == 1 && e.ex
section
variable (S : OrdF F)
include S
set_option maxRecDepth 100000 in
theorem so_R (e : Ev) : pureS F 240 [.agg (evC e)] = some (.b (oR e)) := by
  refine pure_of S.po.order_isR ?_
  simp (disch := omega) only [A_order_isR, wp, Nat.reduceAdd, Nat.reduceMul, Nat.reduceSub, gl]
  rfl
set_option maxRecDepth 100000 in
theorem so_W (e : Ev) : pureS F 203 [.agg (evC e)] = some (.b (oW e)) := by
  refine pure_of S.po.order_isW ?_
  simp (disch := omega) only [A_order_isW, wp, Nat.reduceAdd, Nat.reduceMul, Nat.reduceSub, gl]
  rfl
set_option maxRecDepth 100000 in
theorem so_F (e : Ev) : pureS F 200 [.agg (evC e)] = some (.b (oF e)) := by
  refine pure_of S.po.order_isF ?_
  simp (disch := omega) only [A_order_isF, wp, Nat.reduceAdd, Nat.reduceMul, Nat.reduceSub, gl]
  rfl
set_option maxRecDepth 100000 in
theorem so_Rel (e : Ev) : pureS F 196 [.agg (evC e)] = some (.b (oRel e)) := by
  refine pure_of S.po.order_isRel ?_
  have h := so_W S e
  unfold oRel
  unfold oW at h
  cases c : (e.kd == 2) with
  | true => rw [c] at h; simp (disch := omega) only [A_order_isRel, wp, Nat.reduceAdd, Nat.reduceMul, Nat.reduceSub, gl, h]
  | false => rw [c] at h; simp (disch := omega) only [A_order_isRel, wp, Nat.reduceAdd, Nat.reduceMul, Nat.reduceSub, gl, h]
set_option maxRecDepth 100000 in
theorem so_Acq (e : Ev) : pureS F 198 [.agg (evC e)] = some (.b (oAcq e)) := by
  refine pure_of S.po.order_isAcq ?_
  have h := so_R S e
  unfold oAcq
  unfold oR at h
  cases c : (e.kd == 1) with
  | true => rw [c] at h; simp (disch := omega) only [A_order_isAcq, wp, Nat.reduceAdd, Nat.reduceMul, Nat.reduceSub, gl, h]
  | false => rw [c] at h; simp (disch := omega) only [A_order_isAcq, wp, Nat.reduceAdd, Nat.reduceMul, Nat.reduceSub, gl, h]
set_option maxRecDepth 100000 in
theorem so_Sc (e : Ev) : pureS F 241 [.agg (evC e)] = some (.b (oSc e)) := by
  refine pure_of S.po.order_isSc ?_
  have h := so_F S e
  unfold oSc
  unfold oF at h
  cases c : (e.kd == 3) with
  | true => rw [c] at h; simp (disch := omega) only [A_order_isSc, wp, Nat.reduceAdd, Nat.reduceMul, Nat.reduceSub, gl, h]
  | false => rw [c] at h; simp (disch := omega) only [A_order_isSc, wp, Nat.reduceAdd, Nat.reduceMul, Nat.reduceSub, gl, h]
set_option maxRecDepth 100000 in
theorem so_Ex (e : Ev) : pureS F 245 [.agg (evC e)] = some (.b (oEx e)) := by
  refine pure_of S.po.order_isEx ?_
  have h := so_R S e
  unfold oEx
  unfold oR at h
  cases c : (e.kd == 1) with
  | true => rw [c] at h; simp (disch := omega) only [A_order_isEx, wp, Nat.reduceAdd, Nat.reduceMul, Nat.reduceSub, gl, h]
  | false => rw [c] at h; simp (disch := omega) only [A_order_isEx, wp, Nat.reduceAdd, Nat.reduceMul, Nat.reduceSub, gl, h]
end
section
variable (X : Gr)
def bobL : List Rw := [thenR (nOf X) (poR X) (setR X oRel), thenR (nOf X) (setR X oAcq) (poR X), thenR (nOf X) (poR X) (setR X oF), thenR (nOf X) (setR X oF) (poR X), thenR (nOf X) (thenR (nOf X) (setR X oRel) (locR X)) (setR X oW)]
def bobR : Rw := orL (newR (nOf X) []) (bobL X)
def depsR : Rw := orL (newR (nOf X) []) [newR (nOf X) X.data, newR (nOf X) X.ctrl, thenR (nOf X) (setR X oEx) (poR X)]
def oppoR : Rw := thenR (nOf X) (thenR (nOf X) (setR X oR) (plusR (nOf X) (orR (depsR X) (partR inner X (nOf X) (rfR X))))) (setR X oW)
def odetR : Rw := andR (thenR (nOf X) (partR outer X (nOf X) (relE (coS X.co) X)) (partR outer X (nOf X) (rfR X))) (poR X)
def pscR : Rw := thenR (nOf X) (thenR (nOf X) (thenR (nOf X) (thenR (nOf X) (setR X oSc) (HbP X)) (ecoR X)) (HbP X)) (setR X oSc)
def arR : Rw := orL (newR (nOf X) []) [partR outer X (nOf X) (rfR X), bobR X, oppoR X, odetR X, pscR X]
end
def ClosR (F : Funs) (n : Nat) (f : AV) (R : Rw) : Prop := ∃ fid caps, f = .fn fid [] caps ∧ pureS F fid caps = some (.ptr (relC n R)) ∧ (∀ hp, frzL hp depth caps = some caps) ∧ ∀ hp, caps.flatMap (vis hp depth) = []
def ClosL (F : Funs) (n : Nat) : List AV → List Rw → Prop
  | [], [] => True
  | f :: fs, R :: Rs => ClosR F n f R ∧ ClosL F n fs Rs
  | _, _ => False
theorem closL_len {n : Nat} : ∀ {fs : List AV} {Rs : List Rw}, ClosL F n fs Rs → fs.length = Rs.length
  | [], [], _ => rfl
  | f :: fs, R :: Rs, h => by simp [closL_len h.2]
theorem closL_at {n : Nat} : ∀ {fs : List AV} {Rs : List Rw} {k : Nat}, ClosL F n fs Rs → (h : k < Rs.length) → ∃ f, fs[k]? = some f ∧ ClosR F n f (Rs.getD k fun _ => 0)
  | [], [], _, _, hk => absurd hk (Nat.not_lt_zero _)
  | [], _ :: _, _, h, _ => h.elim
  | _ :: _, [], _, h, _ => h.elim
  | f :: fs, R :: Rs, 0, h, _ => ⟨f, rfl, h.1⟩
  | f :: fs, R :: Rs, k + 1, h, hk => closL_at (k := k) h.2 (by simpa using hk)
section
variable (S : OrdF F) {X : Gr} (hX : Few X)
include S hX
set_option maxRecDepth 100000 in
set_option maxHeartbeats 4000000 in
omit hX in
theorem so_all {fs : List AV} {Rs : List Rw} (h : ClosL F (nOf X) fs Rs) (hl : Rs.length ≤ 1000) (t : Tok) : pureS F 193 [.agg (grC X), .sl fs Rs.length t] = some (.ptr (relC (nOf X) (orL (newR (nOf X) []) Rs))) := by
  refine pure_of S.po.order_all ?_
  have hn := nOf_le X
  have dn : pureS F 11 [.i .i64 X.evs.length, .sl [] 0 .non] = some (.ptr (relC (nOf X) (newR (nOf X) []))) := sp_new S.sy.pr X.evs.length [] .non (by simp)
  have hfl := closL_len h
  simp (disch := omega) only [A_order_all, wp, Nat.reduceAdd, Nat.reduceMul, Nat.reduceSub, gl, dn]
  refine W_loop (fun q e g => ∃ k, q = Rs.length - k ∧ k ≤ Rs.length ∧ e 5 = .ptr (relC (nOf X) (orL (newR (nOf X) []) (Rs.take k))) ∧ e 12 = .sl fs Rs.length t ∧ e 13 = .i .i64 Rs.length ∧ e 14 = .i .i64 k) Rs.length ?_ ?_
  · refine ⟨0, rfl, Nat.zero_le _, ?_⟩
    simp (disch := omega) only [wp, Nat.reduceAdd, Nat.reduceMul, Nat.reduceSub]
    exact ⟨by rfl, rfl⟩
  · rintro q e g ⟨k, rfl, hk, e5, e12, e13, e14⟩
    by_cases hk' : k < Rs.length
    · have hk1 : (k : Int) < Rs.length := by omega
      have hwk := succ_wrap (k := k) (by omega)
      obtain ⟨f, hf, fid, caps, rfl, hcall, hc, hv⟩ := closL_at h hk'
      have hp : part (fs.drop (k * 1)) 0 none = some (.fn fid [] caps) := by
        simp only [part, List.getElem?_drop, Nat.mul_one, Nat.add_zero, hf]
      have hs : orL (newR (nOf X) []) (Rs.take (k + 1)) = orR (orL (newR (nOf X) []) (Rs.take k)) (Rs.getD k fun _ => 0) := by
        unfold orL
        rw [List.take_add_one, List.foldl_append, List.getElem?_eq_getElem hk', List.getD_eq_getElem?_getD, List.getElem?_eq_getElem hk']
        rfl
      generalize orL (newR (nOf X) []) (Rs.take k) = A at e5 hs
      generalize (Rs.getD k fun _ => 0) = B at hcall hs
      simp (disch := omega) only [wp, Nat.reduceAdd, Nat.reduceMul, Nat.reduceSub, gl, e5, e12, e13, e14, hk1, hp, hc, hv, hcall, sp_or S.sy.pr hn hn, Nat.max_self, hwk]
      exact ⟨Rs.length - (k + 1), by omega, k + 1, rfl, by omega, by rw [hs], rfl⟩
    · obtain rfl : k = Rs.length := by omega
      have hk1 : ¬ ((Rs.length : Int) < Rs.length) := by omega
      rw [List.take_length] at e5
      simp (disch := omega) only [wp, Nat.reduceAdd, Nat.reduceMul, Nat.reduceSub, gl, e5, e12, e13, e14, hk1]
set_option maxRecDepth 100000 in
theorem so_set {fid : Nat} {p : Ev → Bool} (hp : ∀ e, pureS F fid [.agg (evC e)] = some (.b (p e))) : pureS F 195 [.agg (grC X), .fn fid [] []] = some (.ptr (relC (nOf X) (setR X p))) := by
  refine pure_of S.po.order_set ?_
  have hs := sp_setE S.sy.set S.sy.gof S.sy.pr (X := X) (by have := hX.1; omega) hp (fun hp => frzL_nil hp _) (fun hp => rfl)
  simp (disch := omega) only [A_order_set, wp, Nat.reduceAdd, Nat.reduceMul, Nat.reduceSub, gl, hs]
end
end Go.Ab
end
section
set_option linter.unusedVariables false
set_option linter.unusedSimpArgs false
namespace Go.Ab
variable {F : Funs}
theorem fz_p1 (a : List AV) (hp) : frzL hp depth [.ptr a] = some [.ptr a] := by simp only [frzL_cons, frzL_nil, frz_d_ptr, consO_ok]
theorem fz_p2 (a b : List AV) (hp) : frzL hp depth [.ptr a, .ptr b] = some [.ptr a, .ptr b] := by simp only [frzL_cons, frzL_nil, frz_d_ptr, consO_ok]
theorem vs_p1 (a : List AV) (hp) : [AV.ptr a].flatMap (vis hp depth) = [] := by simp only [List.flatMap_cons, List.flatMap_nil, vis_ptr, List.append_nil]
theorem vs_p2 (a b : List AV) (hp) : [AV.ptr a, .ptr b].flatMap (vis hp depth) = [] := by simp only [List.flatMap_cons, List.flatMap_nil, vis_ptr, List.append_nil]
theorem fzf_1 (f : Nat) (a : List AV) (hp) : frz hp depth (.fn f [] [.ptr a]) = some (.fn f [] [.ptr a]) := by
  show frz hp (8 + 1) _ = _
  simp only [frz, frzL]
theorem fzf_2 (f : Nat) (a b : List AV) (hp) : frz hp depth (.fn f [] [.ptr a, .ptr b]) = some (.fn f [] [.ptr a, .ptr b]) := by
  show frz hp (8 + 1) _ = _
  simp only [frz, frzL]
theorem vsf_1 (f : Nat) (a : List AV) (hp) : vis hp depth (.fn f [] [.ptr a]) = [] := by
  show vis hp (8 + 1) _ = _
  simp only [vis, List.flatMap_cons, List.flatMap_nil, List.append_nil]
theorem vsf_2 (f : Nat) (a b : List AV) (hp) : vis hp depth (.fn f [] [.ptr a, .ptr b]) = [] := by
  show vis hp (8 + 1) _ = _
  simp only [vis, List.flatMap_cons, List.flatMap_nil, List.append_nil]
theorem closR_1 {n : Nat} {f : Nat} {a : List AV} {R : Rw} (h : pureS F f [.ptr a] = some (.ptr (relC n R))) : ClosR F n (.fn f [] [.ptr a]) R := ⟨f, _, rfl, h, fz_p1 a, vs_p1 a⟩
theorem closR_2 {n : Nat} {f : Nat} {a b : List AV} {R : Rw} (h : pureS F f [.ptr a, .ptr b] = some (.ptr (relC n R))) : ClosR F n (.fn f [] [.ptr a, .ptr b]) R := ⟨f, _, rfl, h, fz_p2 a b, vs_p2 a b⟩
section
variable (S : OrdF F) {X : Gr} (hX : Few X)
include S hX
set_option maxRecDepth 100000 in
omit hX in
theorem so_deps1 (hd : X.data.length ≤ 1000) : pureS F 242 [.ptr (grC X)] = some (.ptr (relC (nOf X) (newR (nOf X) X.data))) := by
  refine pure_of S.po.order_Deps_1 ?_
  have h5 : part (List.drop 5 (grC X)) 0 none = some (.sl (pairsC X.data) X.data.length .non) := rfl
  simp (disch := omega) only [A_order_Deps_1, wp, Nat.reduceAdd, Nat.reduceMul, Nat.reduceSub, gl, h5, sp_ofX S.sy]
set_option maxRecDepth 100000 in
omit hX in
theorem so_deps2 (hd : X.ctrl.length ≤ 1000) : pureS F 243 [.ptr (grC X)] = some (.ptr (relC (nOf X) (newR (nOf X) X.ctrl))) := by
  refine pure_of S.po.order_Deps_2 ?_
  have h5 : part (List.drop 6 (grC X)) 0 none = some (.sl (pairsC X.ctrl) X.ctrl.length .non) := rfl
  simp (disch := omega) only [A_order_Deps_2, wp, Nat.reduceAdd, Nat.reduceMul, Nat.reduceSub, gl, h5, sp_ofX S.sy]
set_option maxRecDepth 100000 in
theorem so_deps3 : pureS F 244 [.ptr (grC X)] = some (.ptr (relC (nOf X) (thenR (nOf X) (setR X oEx) (poR X)))) := by
  refine pure_of S.po.order_Deps_3 ?_
  have hn := nOf_le X
  simp (disch := omega) only [A_order_Deps_3, wp, Nat.reduceAdd, Nat.reduceMul, Nat.reduceSub, gl, so_set S hX (so_Ex S), sp_poX S.sy hX, sp_then S.sy.pr hn hn, Nat.max_self]
set_option maxRecDepth 100000 in
theorem so_deps (hd : X.data.length ≤ 1000) (hc : X.ctrl.length ≤ 1000) : pureS F 213 [.agg (grC X)] = some (.ptr (relC (nOf X) (depsR X))) := by
  refine pure_of S.po.order_Deps ?_
  have d := so_all S (X := X) (fs := [.fn 242 [] [.ptr (grC X)], .fn 243 [] [.ptr (grC X)], .fn 244 [] [.ptr (grC X)]]) (Rs := [newR (nOf X) X.data, newR (nOf X) X.ctrl, thenR (nOf X) (setR X oEx) (poR X)]) ⟨closR_1 (so_deps1 S hd), closR_1 (so_deps2 S hc), closR_1 (so_deps3 S hX), trivial⟩ (by simp) .non
  simp only [List.length_cons, List.length_nil, Nat.reduceAdd] at d
  simp (disch := omega) only [A_order_Deps, wp, Nat.reduceAdd, Nat.reduceMul, Nat.reduceSub, gl, o_boxI, vBoxI_S, bxiD_ok, frzL_gr, vMapL_some, fzf_1, vsf_1, d]
  rfl
set_option maxRecDepth 100000 in
theorem so_bob1 : pureS F 194 [.ptr [.ptr (relC (nOf X) (poR X))], .ptr (grC X)] = some (.ptr (relC (nOf X) (thenR (nOf X) (poR X) (setR X oRel)))) := by
  refine pure_of S.po.order_Bob_1 ?_
  have hn := nOf_le X
  simp (disch := omega) only [A_order_Bob_1, wp, Nat.reduceAdd, Nat.reduceMul, Nat.reduceSub, gl, so_set S hX (so_Rel S), sp_then S.sy.pr hn hn, Nat.max_self]
set_option maxRecDepth 100000 in
theorem so_bob2 : pureS F 197 [.ptr (grC X), .ptr [.ptr (relC (nOf X) (poR X))]] = some (.ptr (relC (nOf X) (thenR (nOf X) (setR X oAcq) (poR X)))) := by
  refine pure_of S.po.order_Bob_2 ?_
  have hn := nOf_le X
  simp (disch := omega) only [A_order_Bob_2, wp, Nat.reduceAdd, Nat.reduceMul, Nat.reduceSub, gl, so_set S hX (so_Acq S), sp_then S.sy.pr hn hn, Nat.max_self]
set_option maxRecDepth 100000 in
theorem so_bob3 : pureS F 199 [.ptr [.ptr (relC (nOf X) (poR X))], .ptr (grC X)] = some (.ptr (relC (nOf X) (thenR (nOf X) (poR X) (setR X oF)))) := by
  refine pure_of S.po.order_Bob_3 ?_
  have hn := nOf_le X
  simp (disch := omega) only [A_order_Bob_3, wp, Nat.reduceAdd, Nat.reduceMul, Nat.reduceSub, gl, so_set S hX (so_F S), sp_then S.sy.pr hn hn, Nat.max_self]
set_option maxRecDepth 100000 in
theorem so_bob4 : pureS F 201 [.ptr (grC X), .ptr [.ptr (relC (nOf X) (poR X))]] = some (.ptr (relC (nOf X) (thenR (nOf X) (setR X oF) (poR X)))) := by
  refine pure_of S.po.order_Bob_4 ?_
  have hn := nOf_le X
  simp (disch := omega) only [A_order_Bob_4, wp, Nat.reduceAdd, Nat.reduceMul, Nat.reduceSub, gl, so_set S hX (so_F S), sp_then S.sy.pr hn hn, Nat.max_self]
set_option maxRecDepth 100000 in
theorem so_bob5 : pureS F 202 [.ptr (grC X)] = some (.ptr (relC (nOf X) (thenR (nOf X) (thenR (nOf X) (setR X oRel) (locR X)) (setR X oW)))) := by
  refine pure_of S.po.order_Bob_5 ?_
  have hn := nOf_le X
  simp (disch := omega) only [A_order_Bob_5, wp, Nat.reduceAdd, Nat.reduceMul, Nat.reduceSub, gl, so_set S hX (so_Rel S), so_set S hX (so_W S), sp_locX S.sy hX, sp_then S.sy.pr hn hn, Nat.max_self]
set_option maxRecDepth 100000 in
theorem so_bob : pureS F 155 [.agg (grC X)] = some (.ptr (relC (nOf X) (bobR X))) := by
  refine pure_of S.po.order_Bob ?_
  have d := so_all S (X := X) (fs := [.fn 194 [] [.ptr [.ptr (relC (nOf X) (poR X))], .ptr (grC X)], .fn 197 [] [.ptr (grC X), .ptr [.ptr (relC (nOf X) (poR X))]], .fn 199 [] [.ptr [.ptr (relC (nOf X) (poR X))], .ptr (grC X)], .fn 201 [] [.ptr (grC X), .ptr [.ptr (relC (nOf X) (poR X))]], .fn 202 [] [.ptr (grC X)]]) (Rs := bobL X) ⟨closR_2 (so_bob1 S hX), closR_2 (so_bob2 S hX), closR_2 (so_bob3 S hX), closR_2 (so_bob4 S hX), closR_1 (so_bob5 S hX), trivial⟩ (by simp [bobL]) .non
  simp only [bobL, List.length_cons, List.length_nil, Nat.reduceAdd] at d
  simp (disch := omega) only [A_order_Bob, wp, Nat.reduceAdd, Nat.reduceMul, Nat.reduceSub, gl, o_boxI, vBoxI_S, bxiD_ok, frzL_gr, vMapL_some, sp_poX S.sy hX]
  refine W_immM (fun e g => e 1 = .ptr (grC X) ∧ e 3 = .mp 4 0 ∧ g.hp 4 = some (.cells [.ptr (relC (nOf X) (poR X))] false) ∧ 4 < g.nx) ?_ ?_
  · simp (disch := omega) only [wp, Nat.reduceAdd, Nat.reduceMul, Nat.reduceSub, gl]
    trivial
  · have r5 : ∀ x : AV, List.replicate 5 x = [x, x, x, x, x] := fun _ => rfl
    rintro e g ⟨e1, e3, hg, hnx⟩
    have hfz : frz g.hp depth (e 3) = some (.ptr [.ptr (relC (nOf X) (poR X))]) := by
      rw [e3]
      refine frz_d_mp hg ?_
      show frzL g.hp (7 + 1) [AV.ptr (relC (nOf X) (poR X))] = _
      simp only [frzL, frz]
    rw [W_imm hfz]
    simp (disch := omega) only [wp, Nat.reduceAdd, Nat.reduceMul, Nat.reduceSub, gl, e1, r5, fzf_1, vsf_1, fzf_2, vsf_2, d]
    rfl
set_option maxRecDepth 100000 in
theorem so_ppo (hd : X.data.length ≤ 1000) (hc : X.ctrl.length ≤ 1000) : pureS F 207 [.agg (grC X)] = some (.ptr (relC (nOf X) (oppoR X))) := by
  refine pure_of S.po.order_Ppo ?_
  have hn := nOf_le X
  simp (disch := omega) only [A_order_Ppo, wp, Nat.reduceAdd, Nat.reduceMul, Nat.reduceSub, gl, so_deps S hX hd hc, so_set S hX (so_R S), so_set S hX (so_W S), sp_rfX S.sy hX, sp_Inner S.sy.pe S.sy.gof S.sy.pr hn, sp_or S.sy.pr hn hn, sp_plus S.sy.pr hn, sp_then S.sy.pr hn hn, Nat.max_self]
  rfl
set_option maxRecDepth 100000 in
theorem so_detour : pureS F 209 [.agg (grC X)] = some (.ptr (relC (nOf X) (odetR X))) := by
  refine pure_of S.po.order_Detour ?_
  have hn := nOf_le X
  simp (disch := omega) only [A_order_Detour, wp, Nat.reduceAdd, Nat.reduceMul, Nat.reduceSub, gl, sp_rfX S.sy hX, sp_poX S.sy hX, sp_Co S.sy.pe S.sy.gof S.sy.pr hX, sp_Outer S.sy.pe S.sy.gof S.sy.pr hn, sp_and S.sy.pr hn hn, sp_then S.sy.pr hn hn, Nat.max_self]
  rfl
set_option maxRecDepth 100000 in
theorem so_psc (hr : X.rmw.length ≤ 1000) : pureS F 211 [.agg (grC X)] = some (.ptr (relC (nOf X) (pscR X))) := by
  refine pure_of S.po.order_Psc ?_
  have hn := nOf_le X
  simp (disch := omega) only [A_order_Psc, wp, Nat.reduceAdd, Nat.reduceMul, Nat.reduceSub, gl, so_set S hX (so_Sc S), sp_Hb S.sy hX hr, sp_Eco S.sy.pe S.sy.gof S.sy.pr hX, sp_then S.sy.pr hn hn, Nat.max_self]
  rfl
set_option maxRecDepth 100000 in
theorem so_ar1 : pureS F 204 [.ptr (grC X)] = some (.ptr (relC (nOf X) (partR outer X (nOf X) (rfR X)))) := by
  refine pure_of S.po.order_Ar_1 ?_
  have hn := nOf_le X
  simp (disch := omega) only [A_order_Ar_1, wp, Nat.reduceAdd, Nat.reduceMul, Nat.reduceSub, gl, sp_rfX S.sy hX, sp_Outer S.sy.pe S.sy.gof S.sy.pr hn]
set_option maxRecDepth 100000 in
theorem so_ar2 : pureS F 205 [.ptr (grC X)] = some (.ptr (relC (nOf X) (bobR X))) := by
  refine pure_of S.po.order_Ar_2 ?_
  simp (disch := omega) only [A_order_Ar_2, wp, Nat.reduceAdd, Nat.reduceMul, Nat.reduceSub, gl, so_bob S hX]
set_option maxRecDepth 100000 in
theorem so_ar3 (hd : X.data.length ≤ 1000) (hc : X.ctrl.length ≤ 1000) : pureS F 206 [.ptr (grC X)] = some (.ptr (relC (nOf X) (oppoR X))) := by
  refine pure_of S.po.order_Ar_3 ?_
  simp (disch := omega) only [A_order_Ar_3, wp, Nat.reduceAdd, Nat.reduceMul, Nat.reduceSub, gl, so_ppo S hX hd hc]
set_option maxRecDepth 100000 in
theorem so_ar4 : pureS F 208 [.ptr (grC X)] = some (.ptr (relC (nOf X) (odetR X))) := by
  refine pure_of S.po.order_Ar_4 ?_
  simp (disch := omega) only [A_order_Ar_4, wp, Nat.reduceAdd, Nat.reduceMul, Nat.reduceSub, gl, so_detour S hX]
set_option maxRecDepth 100000 in
theorem so_ar5 (hr : X.rmw.length ≤ 1000) : pureS F 210 [.ptr (grC X)] = some (.ptr (relC (nOf X) (pscR X))) := by
  refine pure_of S.po.order_Ar_5 ?_
  simp (disch := omega) only [A_order_Ar_5, wp, Nat.reduceAdd, Nat.reduceMul, Nat.reduceSub, gl, so_psc S hX hr]
set_option maxRecDepth 100000 in
theorem so_ar (hd : X.data.length ≤ 1000) (hc : X.ctrl.length ≤ 1000) (hr : X.rmw.length ≤ 1000) : pureS F 156 [.agg (grC X)] = some (.ptr (relC (nOf X) (arR X))) := by
  refine pure_of S.po.order_Ar ?_
  have d := so_all S (X := X) (fs := [.fn 204 [] [.ptr (grC X)], .fn 205 [] [.ptr (grC X)], .fn 206 [] [.ptr (grC X)], .fn 208 [] [.ptr (grC X)], .fn 210 [] [.ptr (grC X)]]) (Rs := [partR outer X (nOf X) (rfR X), bobR X, oppoR X, odetR X, pscR X]) ⟨closR_1 (so_ar1 S hX), closR_1 (so_ar2 S hX), closR_1 (so_ar3 S hX hd hc), closR_1 (so_ar4 S hX), closR_1 (so_ar5 S hX hr), trivial⟩ (by simp) .non
  simp only [List.length_cons, List.length_nil, Nat.reduceAdd] at d
  have r5 : ∀ x : AV, List.replicate 5 x = [x, x, x, x, x] := fun _ => rfl
  simp (disch := omega) only [A_order_Ar, wp, Nat.reduceAdd, Nat.reduceMul, Nat.reduceSub, gl, r5, o_boxI, vBoxI_S, bxiD_ok, frzL_gr, vMapL_some, fzf_1, vsf_1, d]
  rfl
end
end Go.Ab
end
section
set_option linter.unusedVariables false
set_option linter.unusedSimpArgs false
namespace Go.Ab
variable {F : Funs}
structure ImmF (F : Funs) : Prop where
  o : OrdF F
  im : Pk_imm F
  gr : GrFs F
section
variable (X : Gr)
def cohR : Rw := orR (HbP X) (thenR (nOf X) (HbP X) (ecoR X))
def cohB : Bool := allN X.evs.length fun i => !has (nOf X) (cohR X) i i
def atR : Rw := andR (newR (nOf X) X.rmw) (thenR (nOf X) (partR outer X (nOf X) (relE (frS X.co) X)) (partR outer X (nOf X) (relE (coS X.co) X)))
def atB : Bool := ((pairsR (nOf X) (atR X)).length : Int) == 0
def ordB : Bool := !loopsR (nOf X) (arR X)
def conB : Bool := gCheck X && (cohB X && (atB X && ordB X))
end
section
variable (S : ImmF F) {X : Gr} (hX : Few X) (hL : LenG X)
include S hX hL
set_option maxRecDepth 100000 in
set_option maxHeartbeats 4000000 in
theorem si_coh : pureS F 214 [.agg (grC X)] = some (.b (cohB X)) := by
  refine pure_of S.im.imm_looked_coherent ?_
  have hn := nOf_le X
  have hev : X.evs.length ≤ 1000 := by have := hX.1; omega
  have hb := sp_Hb S.o.sy hX hL.rmw
  have he := sp_Eco S.o.sy.pe S.o.sy.gof S.o.sy.pr hX
  have finT : (∀ i, i < X.evs.length → (!has (nOf X) (cohR X) (i : Nat) (i : Nat)) = true) → cohB X = true := allN_t
  have finF : ∀ k, k < X.evs.length → (!has (nOf X) (cohR X) (k : Nat) (k : Nat)) = false → cohB X = false := fun k hk h => allN_f hk h
  generalize cohB X = R at finT finF
  have hc : cohR X = orR (HbP X) (thenR (nOf X) (HbP X) (ecoR X)) := rfl
  simp (disch := omega) only [A_imm_looked_coherent, wp, Nat.reduceAdd, Nat.reduceMul, Nat.reduceSub, gl, hb, he, sp_then S.o.sy.pr hn hn, sp_or S.o.sy.pr hn hn, Nat.max_self]
  rw [← hc]
  generalize cohR X = C at finT finF
  refine W_loop (fun q e g => ∃ k : Nat, q = X.evs.length - k ∧ k ≤ X.evs.length ∧ e 4 = .ptr (relC (nOf X) C) ∧ e 19 = .i .i64 X.evs.length ∧ e 20 = .i .i64 k ∧ ∀ i, i < k → (!has (nOf X) C (i : Nat) (i : Nat)) = true) X.evs.length ?_ ?_
  · refine ⟨0, rfl, Nat.zero_le _, ?_⟩
    simp (disch := omega) only [wp, Nat.reduceAdd, Nat.reduceMul, Nat.reduceSub]
    exact ⟨rfl, fun i hi => by omega⟩
  · rintro q e g ⟨k, rfl, hk, e4, e19, e20, hall⟩
    by_cases hk' : k < X.evs.length
    · have hk1 : (k : Int) < X.evs.length := by omega
      have hwk := succ_wrap (k := k) (by omega)
      have hh := sp_has S.o.sy.pr hn C k k
      have hf := finF k hk'
      have hall' : (!has (nOf X) C (k : Nat) (k : Nat)) = true → ∀ i, i < k + 1 → (!has (nOf X) C (i : Nat) (i : Nat)) = true := by
        intro h i hi
        by_cases hik : i = k
        · subst hik; exact h
        · exact hall i (by omega)
      cases c : has (nOf X) C (k : Nat) (k : Nat)
      · rw [c] at hh hall'
        simp (disch := omega) only [wp, Nat.reduceAdd, Nat.reduceMul, Nat.reduceSub, gl, e4, e19, e20, hk1, hh, hwk]
        exact ⟨X.evs.length - (k + 1), by omega, k + 1, rfl, by omega, rfl, hall' rfl⟩
      · rw [c] at hh hf
        obtain rfl := hf rfl
        simp (disch := omega) only [wp, Nat.reduceAdd, Nat.reduceMul, Nat.reduceSub, gl, e4, e19, e20, hk1, hh]
    · have hk1 : ¬ ((k : Int) < X.evs.length) := by omega
      obtain rfl : k = X.evs.length := by omega
      obtain rfl := finT hall
      simp (disch := omega) only [wp, Nat.reduceAdd, Nat.reduceMul, Nat.reduceSub, gl, e4, e19, e20, hk1]
set_option maxRecDepth 100000 in
set_option maxHeartbeats 4000000 in
theorem si_at : pureS F 215 [.agg (grC X)] = some (.b (atB X)) := by
  refine pure_of S.im.imm_looked_atomic ?_
  have hn := nOf_le X
  have r7 : ∀ x : AV, List.replicate 7 x = [x, x, x, x, x, x, x] := fun _ => rfl
  have s8 : ∀ a1 a2 a3 a4 a5 a6 a7 a8 c1 c2 c3 c4 c5 c6 c7 c8 : AV, splice [a1, a2, a3, a4, a5, a6, a7, a8] 0 [c1, c2, c3, c4, c5, c6, c7, c8] = [c1, c2, c3, c4, c5, c6, c7, c8] := fun _ _ _ _ _ _ _ _ _ _ _ _ _ _ _ _ => rfl
  have hr := hL.rmw
  have s9 : splice (AV.i .i64 0 :: List.replicate 7 (AV.sl [] 0 .rig)) 0 (grC X) = grC X := rfl
  have l9 : ([AV.i .i64 0] ++ List.replicate 7 (AV.sl [] 0 .rig)).length = 8 := rfl
  have a9 : ([AV.i .i64 0] ++ List.replicate 7 (AV.sl [] 0 .rig)).all Ab.one = true := rfl
  simp (disch := omega) only [A_imm_looked_atomic, wp, Nat.reduceAdd, Nat.reduceMul, Nat.reduceSub, gl, s9, l9, a9, sp_Fr S.o.sy.pe S.o.sy.gof S.o.sy.pr hX, sp_Co S.o.sy.pe S.o.sy.gof S.o.sy.pr hX, sp_Outer S.o.sy.pe S.o.sy.gof S.o.sy.pr hn, sp_ofX S.o.sy, sp_and S.o.sy.pr hn hn, sp_then S.o.sy.pr hn hn, sp_pairs S.o.sy.pr hn, Nat.max_self]
  rfl
set_option maxRecDepth 100000 in
theorem si_ord : pureS F 216 [.agg (grC X)] = some (.b (ordB X)) := by
  refine pure_of S.im.imm_looked_ordered ?_
  have hn := nOf_le X
  simp (disch := omega) only [A_imm_looked_ordered, wp, Nat.reduceAdd, Nat.reduceMul, Nat.reduceSub, gl, so_ar S.o hX hL.data hL.ctrl hL.rmw, sp_loops S.o.sy.pr hn]
  rfl
set_option maxRecDepth 100000 in
theorem si_Coh : pureS F 164 [.agg (grC X)] = some (.b (cohB X)) := by
  refine pure_of S.im.imm_Coherent ?_
  have s9 : splice (AV.i .i64 0 :: List.replicate 7 (AV.sl [] 0 .rig)) 0 (grC X) = grC X := rfl
  simp (disch := omega) only [A_imm_Coherent, wp, Nat.reduceAdd, Nat.reduceMul, Nat.reduceSub, gl, s9, si_coh S hX hL]
set_option maxRecDepth 100000 in
theorem si_At : pureS F 162 [.agg (grC X)] = some (.b (atB X)) := by
  refine pure_of S.im.imm_Atomic ?_
  have s9 : splice (AV.i .i64 0 :: List.replicate 7 (AV.sl [] 0 .rig)) 0 (grC X) = grC X := rfl
  simp (disch := omega) only [A_imm_Atomic, wp, Nat.reduceAdd, Nat.reduceMul, Nat.reduceSub, gl, s9, si_at S hX hL]
set_option maxRecDepth 100000 in
theorem si_Ord : pureS F 217 [.agg (grC X)] = some (.b (ordB X)) := by
  refine pure_of S.im.imm_Ordered ?_
  have s9 : splice (AV.i .i64 0 :: List.replicate 7 (AV.sl [] 0 .rig)) 0 (grC X) = grC X := rfl
  simp (disch := omega) only [A_imm_Ordered, wp, Nat.reduceAdd, Nat.reduceMul, Nat.reduceSub, gl, s9, si_ord S hX hL]
omit S hX hL in
theorem frz_bound (hp) (f : Nat) (X : Gr) : frz hp depth (.fn f [.agg (grC X)] []) = some (.fn f [.agg (grC X)] []) := by
  show frz hp (8 + 1) _ = _
  simp only [frz, frzL, grC, Option.map_some]
omit S hX hL in
theorem vis_bound (hp) (f : Nat) (X : Gr) : vis hp depth (.fn f [.agg (grC X)] []) = [] := by
  show vis hp (8 + 1) _ = _
  simp only [vis, grC, List.flatMap_cons, List.flatMap_nil, List.append_nil]
set_option maxRecDepth 100000 in
set_option maxHeartbeats 4000000 in
theorem si_con : pureS F 161 [.agg (grC X)] = some (.b (conB X)) := by
  refine pure_of S.im.imm_Consistent ?_
  have hck := sg_check S.gr hL
  have h1 := si_coh S hX hL
  have h2 := si_at S hX hL
  have h3 := si_ord S hX hL
  have hR : conB X = (gCheck X && (cohB X && (atB X && ordB X))) := rfl
  cases c0 : gCheck X
  · rw [c0] at hck hR
    rw [hR]
    simp (disch := omega) only [A_imm_Consistent, wp, Nat.reduceAdd, Nat.reduceMul, Nat.reduceSub, gl, hck]
  rw [c0] at hck
  rw [c0, Bool.true_and] at hR
  have s9 : splice (AV.i .i64 0 :: List.replicate 7 (AV.sl [] 0 .rig)) 0 (grC X) = grC X := rfl
  have l9 : ([AV.i .i64 0] ++ List.replicate 7 (AV.sl [] 0 .rig)).length = 8 := rfl
  have a9 : ([AV.i .i64 0] ++ List.replicate 7 (AV.sl [] 0 .rig)).all Ab.one = true := rfl
  generalize conB X = R at hR
  generalize cohB X = b1 at h1 hR
  generalize atB X = b2 at h2 hR
  generalize ordB X = b3 at h3 hR
  simp (disch := omega) only [A_imm_Consistent, wp, Nat.reduceAdd, Nat.reduceMul, Nat.reduceSub, gl, hck, s9, l9, a9, frz_bound, vis_bound, o_mkfn]
  have fz : ∀ hp : Nat → Option Blk, frzL hp depth ([.agg (grC X)] ++ [] ++ []) = some [.agg (grC X)] := fun hp => by
    show frzL hp (8 + 1) _ = _
    simp only [List.append_nil, frzL, frz, grC, Option.map_some]
  have c1 : ∀ al g, vPure F al (.fn 214 [.agg (grC X)] []) [] g = some (.b b1, g) := fun al g => vPure_ok (fz _) h1 rfl
  have c2 : ∀ al g, vPure F al (.fn 215 [.agg (grC X)] []) [] g = some (.b b2, g) := fun al g => vPure_ok (fz _) h2 rfl
  have c3 : ∀ al g, vPure F al (.fn 216 [.agg (grC X)] []) [] g = some (.b b3, g) := fun al g => vPure_ok (fz _) h3 rfl
  have o1 : Ab.one (.fn 214 [.agg (grC X)] []) = true := rfl
  have o2 : Ab.one (.fn 215 [.agg (grC X)] []) = true := rfl
  have o3 : Ab.one (.fn 216 [.agg (grC X)] []) = true := rfl
  generalize AV.fn 214 [.agg (grC X)] [] = f1 at c1 o1
  generalize AV.fn 215 [.agg (grC X)] [] = f2 at c2 o2
  generalize AV.fn 216 [.agg (grC X)] [] = f3 at c3 o3
  have p0 : part [f1, f2, f3] 0 (some 1) = some (.agg [f1]) := rfl
  have p1 : part (List.drop 1 [f1, f2, f3]) 0 (some 1) = some (.agg [f2]) := rfl
  have p2 : part (List.drop 2 [f1, f2, f3]) 0 (some 1) = some (.agg [f3]) := rfl
  refine W_loop (fun q e g => ∃ k : Nat, q = 3 - k ∧ k ≤ 3 ∧ e 20 = .sl [f1, f2, f3] 3 .rig ∧ e 21 = .i .i64 3 ∧ e 22 = .i .i64 k ∧ (1 ≤ k → b1 = true) ∧ (2 ≤ k → b2 = true) ∧ (3 ≤ k → b3 = true)) 3 ?_ ?_
  · refine ⟨0, rfl, by omega, ?_⟩
    simp (disch := omega) only [wp, Nat.reduceAdd, Nat.reduceMul, Nat.reduceSub]
    exact ⟨rfl, rfl, fun h => by omega, fun h => by omega, fun h => by omega⟩
  · rintro q e g ⟨k, rfl, hk, e20, e21, e22, q1, q2, q3⟩
    have lt03 : (((0 : Nat) : Int) < 3) := by omega
    have lt13 : (((1 : Nat) : Int) < 3) := by omega
    have lt23 : (((2 : Nat) : Int) < 3) := by omega
    have w0 := succ_wrap (k := 0) (by omega)
    have w1 := succ_wrap (k := 1) (by omega)
    have w2 := succ_wrap (k := 2) (by omega)
    have t1 : Int.toNat 1 = 1 := rfl
    have t2 : Int.toNat 2 = 2 := rfl
    have hk' : k = 0 ∨ k = 1 ∨ k = 2 ∨ k = 3 := by omega
    rcases hk' with rfl | rfl | rfl | rfl
    · cases b1
      · simp (disch := omega) only [wp, Nat.reduceAdd, Nat.reduceMul, Nat.reduceSub, gl, e20, e21, e22, lt03, p0, o1, c1, w0]
        rw [hR]; rfl
      · simp (disch := omega) only [wp, Nat.reduceAdd, Nat.reduceMul, Nat.reduceSub, gl, e20, e21, e22, lt03, p0, o1, c1, w0]
        exact ⟨2, by omega, 1, rfl, by omega, rfl, fun _ => trivial, fun h => by omega, fun h => by omega⟩
    · obtain rfl := q1 (by omega)
      cases b2
      · simp (disch := omega) only [wp, Nat.reduceAdd, Nat.reduceMul, Nat.reduceSub, gl, e20, e21, e22, lt13, p1, o2, c2, t1, w1]
        rw [hR]; rfl
      · simp (disch := omega) only [wp, Nat.reduceAdd, Nat.reduceMul, Nat.reduceSub, gl, e20, e21, e22, lt13, p1, o2, c2, t1, w1]
        exact ⟨1, by omega, 2, rfl, by omega, rfl, fun _ => trivial, fun _ => trivial, fun h => by omega⟩
    · obtain rfl := q1 (by omega)
      obtain rfl := q2 (by omega)
      cases b3
      · simp (disch := omega) only [wp, Nat.reduceAdd, Nat.reduceMul, Nat.reduceSub, gl, e20, e21, e22, lt23, p2, o3, c3, t2, w2]
        rw [hR]; rfl
      · simp (disch := omega) only [wp, Nat.reduceAdd, Nat.reduceMul, Nat.reduceSub, gl, e20, e21, e22, lt23, p2, o3, c3, t2, w2]
        exact ⟨0, by omega, 3, rfl, by omega, rfl, fun _ => trivial, fun _ => trivial, fun _ => trivial⟩
    · obtain rfl := q1 (by omega)
      obtain rfl := q2 (by omega)
      obtain rfl := q3 (by omega)
      have n33 : ¬ (((3 : Nat) : Int) < 3) := by omega
      simp (disch := omega) only [wp, Nat.reduceAdd, Nat.reduceMul, Nat.reduceSub, gl, e20, e21, e22, n33]
      rw [hR]; rfl
end
end Go.Ab
end
section
namespace Go.Ab
def A_xref10_Rs : AFun := { res := [.t 2], body := (.seq (.reg false [{ dst := some 1, op := .box (.t 0) },
  { dst := some 2, op := .mv (.c (.nilp)) }])
 (.seq (.reg true [{ dst := some 6, op := .ld (some 8) (.t 1), pre := [] },
  { dst := some 7, op := .call .pure (.c (.fn 230 [] [])) [.t 6], pre := [] },
  { dst := some 8, op := .ld (some 8) (.t 1), pre := [] },
  { dst := some 9, op := .call .pure (.c (.fn 73 [] [])) [.t 8], pre := [] },
  { dst := some 3, op := .mv (.t 7) },
  { dst := some 4, op := .mv (.t 9) }])
 (.seq (.reg true [{ dst := some 10, op := .mv (.t 4) },
  { dst := some 11, op := .call .pure (.c (.fn 35 [] [])) [.t 10], pre := [] },
  { dst := some 12, op := .ld (some 8) (.t 1), pre := [] },
  { dst := some 13, op := .call .pure (.c (.fn 69 [] [])) [.t 12], pre := [] },
  { dst := some 14, op := .call .pure (.c (.fn 32 [] [])) [.t 11, .t 13], pre := [] },
  { dst := some 15, op := .ld (some 8) (.t 1), pre := [] },
  { dst := some 16, op := .fa 4 (.t 1) },
  { dst := some 17, op := .ld none (.t 16), pre := [] },
  { dst := some 18, op := .call .pure (.c (.fn 223 [] [])) [.t 15, .t 17], pre := [] },
  { dst := some 19, op := .call .pure (.c (.fn 32 [] [])) [.t 14, .t 18], pre := [] },
  { dst := some 5, op := .mv (.t 19) }])
 (.seq (.reg false [{ dst := some 20, op := .mv (.t 3) },
  { dst := some 21, op := .mv (.t 4) },
  { dst := some 22, op := .call .pure (.c (.fn 32 [] [])) [.t 20, .t 21] },
  { dst := some 23, op := .mv (.t 3) },
  { dst := some 24, op := .call .pure (.c (.fn 32 [] [])) [.t 22, .t 23] },
  { dst := some 25, op := .mv (.t 3) },
  { dst := some 26, op := .mv (.t 5) },
  { dst := some 27, op := .call .pure (.c (.fn 231 [] [])) [.t 26] },
  { dst := some 28, op := .call .pure (.c (.fn 32 [] [])) [.t 25, .t 27] },
  { dst := some 29, op := .call .pure (.c (.fn 29 [] [])) [.t 24, .t 28] },
  { dst := some 2, op := .mv (.t 29) }])
 .ret)))) }
def A_xref10_Release : AFun := { res := [.t 2], body := (.seq (.reg false [{ dst := some 1, op := .box (.t 0) },
  { dst := some 2, op := .mv (.c (.nilp)) }])
 (.seq (.reg true [{ dst := some 3, op := .ld (some 8) (.t 1), pre := [] },
  { dst := some 4, op := .call .pure (.c (.fn 232 [] [])) [.t 3], pre := [] },
  { dst := some 5, op := .ld (some 8) (.t 1), pre := [] },
  { dst := some 6, op := .call .pure (.c (.fn 233 [] [])) [.t 5], pre := [] },
  { dst := some 7, op := .ld (some 8) (.t 1), pre := [] },
  { dst := some 8, op := .call .pure (.c (.fn 84 [] [])) [.t 7], pre := [] },
  { dst := some 9, op := .call .pure (.c (.fn 32 [] [])) [.t 6, .t 8], pre := [] },
  { dst := some 10, op := .call .pure (.c (.fn 29 [] [])) [.t 4, .t 9], pre := [] },
  { dst := some 11, op := .ld (some 8) (.t 1), pre := [] },
  { dst := some 12, op := .call .pure (.c (.fn 182 [] [])) [.t 11], pre := [] },
  { dst := some 13, op := .call .pure (.c (.fn 32 [] [])) [.t 10, .t 12], pre := [] },
  { dst := some 2, op := .mv (.t 13) }])
 .ret)) }
def A_xref10_Sw : AFun := { res := [.t 2], body := (.seq (.reg false [{ dst := some 1, op := .box (.t 0) },
  { dst := some 2, op := .mv (.c (.nilp)) }])
 (.seq (.reg false [{ dst := some 5, op := .ld (some 8) (.t 1) },
  { dst := some 6, op := .call .pure (.c (.fn 69 [] [])) [.t 5] },
  { dst := some 3, op := .mv (.t 6) }])
 (.seq (.reg true [{ dst := some 7, op := .ld (some 8) (.t 1), pre := [] },
  { dst := some 8, op := .mv (.t 3) },
  { dst := some 9, op := .call .pure (.c (.fn 74 [] [])) [.t 7, .t 8], pre := [] },
  { dst := some 10, op := .ld (some 8) (.t 1), pre := [] },
  { dst := some 11, op := .call .pure (.c (.fn 73 [] [])) [.t 10], pre := [] },
  { dst := some 12, op := .call .pure (.c (.fn 35 [] [])) [.t 11], pre := [] },
  { dst := some 13, op := .ld (some 8) (.t 1), pre := [] },
  { dst := some 14, op := .mv (.t 3) },
  { dst := some 15, op := .call .pure (.c (.fn 75 [] [])) [.t 13, .t 14], pre := [] },
  { dst := some 16, op := .call .pure (.c (.fn 32 [] [])) [.t 12, .t 15], pre := [] },
  { dst := some 17, op := .call .pure (.c (.fn 29 [] [])) [.t 9, .t 16], pre := [] },
  { dst := some 4, op := .mv (.t 17) }])
 (.seq (.reg true [{ dst := some 18, op := .ld (some 8) (.t 1), pre := [] },
  { dst := some 19, op := .call .pure (.c (.fn 183 [] [])) [.t 18], pre := [] },
  { dst := some 20, op := .mv (.t 4) },
  { dst := some 21, op := .call .pure (.c (.fn 32 [] [])) [.t 19, .t 20], pre := [] },
  { dst := some 22, op := .ld (some 8) (.t 1), pre := [] },
  { dst := some 23, op := .call .pure (.c (.fn 234 [] [])) [.t 22], pre := [] },
  { dst := some 24, op := .ld (some 8) (.t 1), pre := [] },
  { dst := some 25, op := .call .pure (.c (.fn 84 [] [])) [.t 24], pre := [] },
  { dst := some 26, op := .ld (some 8) (.t 1), pre := [] },
  { dst := some 27, op := .call .pure (.c (.fn 235 [] [])) [.t 26], pre := [] },
  { dst := some 28, op := .call .pure (.c (.fn 32 [] [])) [.t 25, .t 27], pre := [] },
  { dst := some 29, op := .call .pure (.c (.fn 29 [] [])) [.t 23, .t 28], pre := [] },
  { dst := some 30, op := .call .pure (.c (.fn 32 [] [])) [.t 21, .t 29], pre := [] },
  { dst := some 2, op := .mv (.t 30) }])
 .ret)))) }
def A_xref10_Hb : AFun := { res := [.t 2], body := (.seq (.reg false [{ dst := some 1, op := .box (.t 0) },
  { dst := some 2, op := .mv (.c (.nilp)) }])
 (.seq (.reg true [{ dst := some 3, op := .ld (some 8) (.t 1), pre := [] },
  { dst := some 4, op := .call .pure (.c (.fn 84 [] [])) [.t 3], pre := [] },
  { dst := some 5, op := .ld (some 8) (.t 1), pre := [] },
  { dst := some 6, op := .call .pure (.c (.fn 184 [] [])) [.t 5], pre := [] },
  { dst := some 7, op := .call .pure (.c (.fn 29 [] [])) [.t 4, .t 6], pre := [] },
  { dst := some 8, op := .call .pure (.c (.fn 34 [] [])) [.t 7], pre := [] },
  { dst := some 2, op := .mv (.t 8) }])
 .ret)) }
def A_xref10_W : AFun := { res := [.t 2], body := (.seq (.reg false [{ dst := some 1, op := .box (.t 0) },
  { dst := some 2, op := .mv (.c (.nilp)) }])
 (.seq (.reg false [{ dst := some 3, op := .ld (some 8) (.t 1) },
  { dst := some 4, op := .call .pure (.c (.fn 225 [] [])) [.t 3, .c (.i .i64 2), .c (.i .i64 0), .c (.i .i64 2)] },
  { dst := some 2, op := .mv (.t 4) }])
 .ret)) }
def A_xref10_Wrel : AFun := { res := [.t 2], body := (.seq (.reg false [{ dst := some 1, op := .box (.t 0) },
  { dst := some 2, op := .mv (.c (.nilp)) }])
 (.seq (.reg false [{ dst := some 3, op := .ld (some 8) (.t 1) },
  { dst := some 4, op := .call .pure (.c (.fn 225 [] [])) [.t 3, .c (.i .i64 2), .c (.i .i64 2), .c (.i .i64 2)] },
  { dst := some 2, op := .mv (.t 4) }])
 .ret)) }
def A_xref10_Frel : AFun := { res := [.t 2], body := (.seq (.reg false [{ dst := some 1, op := .box (.t 0) },
  { dst := some 2, op := .mv (.c (.nilp)) }])
 (.seq (.reg false [{ dst := some 3, op := .ld (some 8) (.t 1) },
  { dst := some 4, op := .call .pure (.c (.fn 225 [] [])) [.t 3, .c (.i .i64 3), .c (.i .i64 2), .c (.i .i64 4)] },
  { dst := some 2, op := .mv (.t 4) }])
 .ret)) }
def A_xref10_Racq : AFun := { res := [.t 2], body := (.seq (.reg false [{ dst := some 1, op := .box (.t 0) },
  { dst := some 2, op := .mv (.c (.nilp)) }])
 (.seq (.reg false [{ dst := some 3, op := .ld (some 8) (.t 1) },
  { dst := some 4, op := .call .pure (.c (.fn 225 [] [])) [.t 3, .c (.i .i64 1), .c (.i .i64 1), .c (.i .i64 1)] },
  { dst := some 2, op := .mv (.t 4) }])
 .ret)) }
def A_xref10_Facq : AFun := { res := [.t 2], body := (.seq (.reg false [{ dst := some 1, op := .box (.t 0) },
  { dst := some 2, op := .mv (.c (.nilp)) }])
 (.seq (.reg true [{ dst := some 3, op := .ld (some 8) (.t 1), pre := [] },
  { dst := some 4, op := .call .pure (.c (.fn 225 [] [])) [.t 3, .c (.i .i64 3), .c (.i .i64 1), .c (.i .i64 1)], pre := [] },
  { dst := some 5, op := .ld (some 8) (.t 1), pre := [] },
  { dst := some 6, op := .call .pure (.c (.fn 225 [] [])) [.t 5, .c (.i .i64 3), .c (.i .i64 3), .c (.i .i64 4)], pre := [] },
  { dst := some 7, op := .call .pure (.c (.fn 29 [] [])) [.t 4, .t 6], pre := [] },
  { dst := some 2, op := .mv (.t 7) }])
 .ret)) }
structure Pk_xref10 (F : Funs) : Prop where
  xref10_Rs : F 182 = some A_xref10_Rs
  xref10_Release : F 183 = some A_xref10_Release
  xref10_Sw : F 184 = some A_xref10_Sw
  xref10_Hb : F 185 = some A_xref10_Hb
  xref10_W : F 230 = some A_xref10_W
  xref10_Wrel : F 232 = some A_xref10_Wrel
  xref10_Frel : F 233 = some A_xref10_Frel
  xref10_Racq : F 234 = some A_xref10_Racq
  xref10_Facq : F 235 = some A_xref10_Facq
end Go.Ab
end
section
set_option linter.unusedVariables false
set_option linter.unusedSimpArgs false
namespace Go.Ab
variable {F : Funs}
def kindQ (k f t : Int) (e : Ev) : Bool := e.kd == k && (decide (f ≤ e.md) && decide (e.md ≤ t))
set_option maxRecDepth 100000 in
set_option maxHeartbeats 4000000 in
theorem sp_kind (h225 : F 225 = some A_xref06_Kind) (h27 : F 27 = some A_xref01_New) {X : Gr} (hn : X.evs.length ≤ 40) (k f t : Int) : pureS F 225 [.agg (grC X), .i .i64 k, .i .i64 f, .i .i64 t] = some (.ptr (matC X.evs.length (kindK X (kindQ k f t) X.evs.length))) := by
  refine pure_of_thaw h225 (matC_flat _ _) ?_
  have s6 : ∀ b1 b2 b3 b4 b5 b6 c1 c2 c3 c4 c5 c6 : AV, splice [b1, b2, b3, b4, b5, b6] 0 [c1, c2, c3, c4, c5, c6] = [c1, c2, c3, c4, c5, c6] := fun _ _ _ _ _ _ _ _ _ _ _ _ => rfl
  simp (disch := omega) only [A_xref06_Kind, wp, Nat.reduceAdd, Nat.reduceMul, Nat.reduceSub, gl, ml, thaw27 h27]
  refine W_loop (fun q e g => ∃ a : Nat, q = X.evs.length - a ∧ a ≤ X.evs.length ∧ e 1 = .i .i64 k ∧ e 2 = .i .i64 f ∧ e 3 = .i .i64 t ∧ e 4 = .mp 0 0 ∧ e 9 = .mp 5 0 ∧ e 10 = .i .i64 a ∧ g.hp 0 = some (.cells (grC X) false) ∧ g.hp 5 = some (.cells (matC X.evs.length (kindK X (kindQ k f t) a)) false) ∧ 5 < g.nx) X.evs.length ?_ ?_
  · refine ⟨0, rfl, Nat.zero_le _, ?_⟩
    simp (disch := omega) only [wp, Nat.reduceAdd, Nat.reduceMul, Nat.reduceSub]
    exact ⟨rfl, by rw [kindK_0], by first | omega | (dsimp only; omega)⟩
  · rintro q e g ⟨a, rfl, ha, e1, e2, e3, e4, e9, e10, hg, hm, hnx⟩
    by_cases ha' : a < X.evs.length
    · have ha1 : (a : Int) < X.evs.length := by omega
      have hwa := succ_wrap (k := a) (by omega)
      have hp := ev_part ha'
      have hs := kindK_succ X (kindQ k f t) a
      have hset := fun x => matC_set (n := X.evs.length) (M := kindK X (kindQ k f t) a) (a := a) (b := a) (x := x) (by omega)
      generalize X.evs.getD a ev0 = ev at hp hs
      obtain ⟨th, kd, md, lc, vl, ex⟩ := ev
      have hq : kindQ k f t ⟨th, kd, md, lc, vl, ex⟩ = (kd == k && (decide (f ≤ md) && decide (md ≤ t))) := rfl
      have fin : ∀ x, x = kindQ k f t ⟨th, kd, md, lc, vl, ex⟩ → X.evs.length - (a + 1) < X.evs.length - a ∧ upd2 (kindK X (kindQ k f t) a) a a x = kindK X (kindQ k f t) (a + 1) := fun x hx => ⟨by omega, by rw [hx, hs]⟩
      cases c1 : (kd == k)
      case false =>
        simp (disch := omega) only [wp, Nat.reduceAdd, Nat.reduceMul, Nat.reduceSub, gl, ml, e1, e2, e3, e4, e9, e10, hg, hm, ha1, hp, s6, c1, hset, hwa]
        obtain ⟨f1, f2⟩ := fin false (by rw [hq, c1]; rfl)
        exact ⟨_, f1, a + 1, rfl, by omega, rfl, by rw [f2], by first | omega | (dsimp only; omega)⟩
      by_cases c2 : f ≤ md
      case neg =>
        simp (disch := omega) only [wp, Nat.reduceAdd, Nat.reduceMul, Nat.reduceSub, gl, ml, e1, e2, e3, e4, e9, e10, hg, hm, ha1, hp, s6, c1, c2, hset, hwa]
        obtain ⟨f1, f2⟩ := fin false (by rw [hq, c1, decide_eq_false c2]; rfl)
        exact ⟨_, f1, a + 1, rfl, by omega, rfl, by rw [f2], by first | omega | (dsimp only; omega)⟩
      simp (disch := omega) only [wp, Nat.reduceAdd, Nat.reduceMul, Nat.reduceSub, gl, ml, e1, e2, e3, e4, e9, e10, hg, hm, ha1, hp, s6, c1, c2, hset, hwa]
      obtain ⟨f1, f2⟩ := fin (decide (md ≤ t)) (by rw [hq, c1, decide_eq_true c2]; simp)
      exact ⟨_, f1, a + 1, rfl, by omega, rfl, by rw [f2], by first | omega | (dsimp only; omega)⟩
    · obtain rfl : a = X.evs.length := by omega
      have ha1 : ¬ ((X.evs.length : Int) < X.evs.length) := by omega
      simp (disch := omega) only [wp, Nat.reduceAdd, Nat.reduceMul, Nat.reduceSub, gl, ml, e1, e2, e3, e4, e9, e10, hg, hm, ha1]
      exact ⟨_, rfl, hm⟩
structure RefF (F : Funs) : Prop where
  px : Pk_xref01 F
  star : F 231 = some A_xref01_R_Star
  p9 : Pk_xref09 F
  p6 : Pk_xref06 F
  kind : F 225 = some A_xref06_Kind
  of : F 223 = some A_xref06_Of
section
variable (S : RefF F) {X : Gr} (h : GraphOk X)
include S h
theorem RefF.k (k f t : Int) : pureS F 225 [.agg (grC X), .i .i64 k, .i .i64 f, .i .i64 t] = some (.ptr (matC X.evs.length (kindK X (kindQ k f t) X.evs.length))) := sp_kind S.kind S.px.xref01_New h.n40 k f t
set_option maxRecDepth 100000 in
theorem RefF.st (A : Mx) : pureS F 231 [.ptr (matC X.evs.length A)] = some (.ptr (matC X.evs.length (mbM (plM X.evs.length A X.evs.length) X.evs.length))) := by
  refine pure_of S.star ?_
  simp (disch := omega) only [A_xref01_R_Star, wp, Nat.reduceAdd, Nat.reduceMul, Nat.reduceSub, gl, sp_mplus S.px.xref01_R_Plus S.px.xref01_New h.n40, sp_mmaybe S.px.xref01_R_Maybe S.px.xref01_New h.n40]
theorem RefF.rf : pureS F 69 [.agg (grC X)] = some (.ptr (matC X.evs.length (anyM (rfL X X.rf.length)))) := by
  have n40 := h.n40
  have hrl := h.rfl
  exact sp_mRf S.p9.xref09_Rf S.px.xref01_New (X := X) n40 (by omega) (fun i hi => by have := (h.rfr i (by omega)).2; omega)
theorem RefF.po : pureS F 84 [.agg (grC X)] = some (.ptr (matC X.evs.length (mpoM X))) := sp_mPo S.p6.xref06_Po S.px.xref01_New h.n40
theorem RefF.loc : pureS F 73 [.agg (grC X)] = some (.ptr (matC X.evs.length (locM X))) := sp_mLoc S.p9.xref09_Loc S.p6.xref06_Po S.px.xref01_New h.n40
theorem RefF.inner (A : Mx) : pureS F 74 [.agg (grC X), .ptr (matC X.evs.length A)] = some (.ptr (matC X.evs.length (prtM X true A))) := sp_mInner S.p9.xref09_Inner S.p9.xref09_part S.px.xref01_New h.n40 A
theorem RefF.outer (A : Mx) : pureS F 75 [.agg (grC X), .ptr (matC X.evs.length A)] = some (.ptr (matC X.evs.length (prtM X false A))) := sp_mOuter S.p9.xref09_Outer S.p9.xref09_part S.px.xref01_New h.n40 A
theorem RefF.then (A B : Mx) : pureS F 32 [.ptr (matC X.evs.length A), .ptr (matC X.evs.length B)] = some (.ptr (matC X.evs.length (thM A B X.evs.length X.evs.length))) := by
  have := sp_mthen S.px.xref01_R_Then S.px.xref01_New h.n40 h.n40 A B
  rwa [Nat.max_self] at this
theorem RefF.or (A B : Mx) : pureS F 29 [.ptr (matC X.evs.length A), .ptr (matC X.evs.length B)] = some (.ptr (matC X.evs.length (opM (fun x y => x || y) A B X.evs.length))) := by
  have := sp_mor S.px.xref01_R_Or S.px.xref01_New h.n40 h.n40 A B
  rwa [Nat.max_self] at this
theorem RefF.and (A B : Mx) : pureS F 30 [.ptr (matC X.evs.length A), .ptr (matC X.evs.length B)] = some (.ptr (matC X.evs.length (opM (fun x y => x && y) A B X.evs.length))) := by
  have := sp_mand S.px.xref01_R_And S.px.xref01_New h.n40 h.n40 A B
  rwa [Nat.max_self] at this
end
section
variable {X : Gr} (h : GraphOk X)
include h
end
set_option maxRecDepth 100000 in
section
variable (S : RefF F) (p10 : Pk_xref10 F) {X : Gr} (h : GraphOk X)
include S p10 h
end
end Go.Ab
end
section
namespace Go.Ab
def A_xref19_Parts : AFun := { res := [.cell 2 (some 4)], body := (.seq (.reg false [{ dst := some 1, op := .box (.t 0) },
  { dst := some 2, op := .new (List.replicate 4 (.nilp)) }])
 (.seq (.reg false [{ dst := some 12, op := .ld (some 8) (.t 1) },
  { dst := some 13, op := .call .pure (.c (.fn 222 [] [])) [.t 12] },
  { dst := some 3, op := .mv (.t 13) }])
 (.seq (.reg false [{ dst := some 14, op := .ld (some 8) (.t 1) },
  { dst := some 15, op := .fa 5 (.t 1) },
  { dst := some 16, op := .ld none (.t 15) },
  { dst := some 17, op := .call .pure (.c (.fn 223 [] [])) [.t 14, .t 16] },
  { dst := some 4, op := .mv (.t 17) }])
 (.seq (.reg true [{ dst := some 18, op := .ld (some 8) (.t 1), pre := [] },
  { dst := some 19, op := .fa 6 (.t 1) },
  { dst := some 20, op := .ld none (.t 19), pre := [] },
  { dst := some 21, op := .call .pure (.c (.fn 223 [] [])) [.t 18, .t 20], pre := [] },
  { dst := some 22, op := .mv (.t 3) },
  { dst := some 23, op := .call .pure (.c (.fn 32 [] [])) [.t 21, .t 22], pre := [] },
  { dst := some 24, op := .ld (some 8) (.t 1), pre := [] },
  { dst := some 25, op := .fa 7 (.t 1) },
  { dst := some 26, op := .ld none (.t 25), pre := [] },
  { dst := some 27, op := .call .pure (.c (.fn 223 [] [])) [.t 24, .t 26], pre := [] },
  { dst := some 28, op := .mv (.t 3) },
  { dst := some 29, op := .call .pure (.c (.fn 32 [] [])) [.t 27, .t 28], pre := [] },
  { dst := some 5, op := .mv (.t 23) },
  { dst := some 6, op := .mv (.t 29) }])
 (.seq (.reg true [{ dst := some 30, op := .ld (some 8) (.t 1), pre := [] },
  { dst := some 31, op := .ld (some 8) (.t 1), pre := [] },
  { dst := some 32, op := .call .pure (.c (.fn 69 [] [])) [.t 31], pre := [] },
  { dst := some 33, op := .call .pure (.c (.fn 74 [] [])) [.t 30, .t 32], pre := [] },
  { dst := some 7, op := .mv (.t 33) }])
 (.seq (.reg false [{ dst := some 34, op := .fa 1 (.t 1) },
  { dst := some 35, op := .ld none (.t 34) },
  { dst := some 36, op := .len (.t 35) },
  { dst := some 37, op := .call .pure (.c (.fn 27 [] [])) [.t 36, .c (.sl [] 0 .rig)] },
  { dst := some 8, op := .mv (.t 37) }])
 (.seq (.reg true [{ dst := some 38, op := .mv (.t 4) },
  { dst := some 39, op := .ld (some 8) (.t 1), pre := [] },
  { dst := some 40, op := .call .pure (.c (.fn 174 [] [])) [.t 39], pre := [] },
  { dst := some 41, op := .call .pure (.c (.fn 29 [] [])) [.t 38, .t 40], pre := [] },
  { dst := some 42, op := .mv (.t 7) },
  { dst := some 43, op := .call .pure (.c (.fn 29 [] [])) [.t 41, .t 42], pre := [] },
  { dst := some 44, op := .mv (.t 8) },
  { dst := some 45, op := .mv (.t 6) },
  { dst := some 46, op := .ld (some 8) (.t 1), pre := [] },
  { dst := some 47, op := .call .pure (.c (.fn 175 [] [])) [.t 46], pre := [] },
  { dst := some 48, op := .call .pure (.c (.fn 29 [] [])) [.t 45, .t 47], pre := [] },
  { dst := some 49, op := .mv (.t 4) },
  { dst := some 50, op := .ld (some 8) (.t 1), pre := [] },
  { dst := some 51, op := .call .pure (.c (.fn 224 [] [])) [.t 50], pre := [] },
  { dst := some 52, op := .call .pure (.c (.fn 29 [] [])) [.t 49, .t 51], pre := [] },
  { dst := some 53, op := .mv (.t 5) },
  { dst := some 54, op := .call .pure (.c (.fn 29 [] [])) [.t 52, .t 53], pre := [] },
  { dst := some 55, op := .build (List.replicate 4 (.nilp)) [(0, 1, .t 43), (1, 1, .t 44), (2, 1, .t 48), (3, 1, .t 54)] },
  { dst := some 9, op := .new (List.replicate 4 (.nilp)) },
  { dst := none, op := .stL 4 (.t 9) (.t 55), pre := [18] }])
 (.seq (.reg false [{ dst := some 56, op := .ld (some 4) (.t 9) },
  { dst := some 10, op := .new (List.replicate 4 (.nilp)) },
  { dst := none, op := .st 4 (.t 10) (.t 56) }])
 (.blk 0 (.loop (.blk 1 (.seq (.reg true [{ dst := some 57, op := .fa 0 (.t 9) },
  { dst := some 58, op := .ld none (.t 57), pre := [] },
  { dst := some 59, op := .fa 2 (.t 10) },
  { dst := some 60, op := .ld none (.t 59), pre := [] },
  { dst := some 61, op := .call .pure (.c (.fn 29 [] [])) [.t 58, .t 60], pre := [] },
  { dst := some 62, op := .fa 1 (.t 10) },
  { dst := some 63, op := .ld none (.t 62), pre := [] },
  { dst := some 64, op := .fa 2 (.t 10) },
  { dst := some 65, op := .ld none (.t 64), pre := [] },
  { dst := some 66, op := .call .pure (.c (.fn 32 [] [])) [.t 63, .t 65], pre := [] },
  { dst := some 67, op := .call .pure (.c (.fn 29 [] [])) [.t 61, .t 66], pre := [] },
  { dst := some 68, op := .fa 0 (.t 10) },
  { dst := some 69, op := .ld none (.t 68), pre := [] },
  { dst := some 70, op := .fa 0 (.t 10) },
  { dst := some 71, op := .ld none (.t 70), pre := [] },
  { dst := some 72, op := .call .pure (.c (.fn 32 [] [])) [.t 69, .t 71], pre := [] },
  { dst := some 73, op := .call .pure (.c (.fn 29 [] [])) [.t 67, .t 72], pre := [] },
  { dst := some 74, op := .fa 0 (.t 10) },
  { dst := some 75, op := .ld none (.t 74), pre := [] },
  { dst := some 76, op := .fa 3 (.t 10) },
  { dst := some 77, op := .ld none (.t 76), pre := [] },
  { dst := some 78, op := .call .pure (.c (.fn 29 [] [])) [.t 75, .t 77], pre := [] },
  { dst := some 79, op := .fa 1 (.t 10) },
  { dst := some 80, op := .ld none (.t 79), pre := [] },
  { dst := some 81, op := .fa 3 (.t 10) },
  { dst := some 82, op := .ld none (.t 81), pre := [] },
  { dst := some 83, op := .call .pure (.c (.fn 32 [] [])) [.t 80, .t 82], pre := [] },
  { dst := some 84, op := .call .pure (.c (.fn 29 [] [])) [.t 78, .t 83], pre := [] },
  { dst := some 85, op := .fa 0 (.t 10) },
  { dst := some 86, op := .ld none (.t 85), pre := [] },
  { dst := some 87, op := .fa 1 (.t 10) },
  { dst := some 88, op := .ld none (.t 87), pre := [] },
  { dst := some 89, op := .call .pure (.c (.fn 32 [] [])) [.t 86, .t 88], pre := [] },
  { dst := some 90, op := .call .pure (.c (.fn 29 [] [])) [.t 84, .t 89], pre := [] },
  { dst := some 91, op := .fa 2 (.t 9) },
  { dst := some 92, op := .ld none (.t 91), pre := [] },
  { dst := some 93, op := .fa 2 (.t 10) },
  { dst := some 94, op := .ld none (.t 93), pre := [] },
  { dst := some 95, op := .fa 0 (.t 10) },
  { dst := some 96, op := .ld none (.t 95), pre := [] },
  { dst := some 97, op := .call .pure (.c (.fn 32 [] [])) [.t 94, .t 96], pre := [] },
  { dst := some 98, op := .call .pure (.c (.fn 29 [] [])) [.t 92, .t 97], pre := [] },
  { dst := some 99, op := .fa 3 (.t 10) },
  { dst := some 100, op := .ld none (.t 99), pre := [] },
  { dst := some 101, op := .fa 2 (.t 10) },
  { dst := some 102, op := .ld none (.t 101), pre := [] },
  { dst := some 103, op := .call .pure (.c (.fn 32 [] [])) [.t 100, .t 102], pre := [] },
  { dst := some 104, op := .call .pure (.c (.fn 29 [] [])) [.t 98, .t 103], pre := [] },
  { dst := some 105, op := .fa 3 (.t 9) },
  { dst := some 106, op := .ld none (.t 105), pre := [] },
  { dst := some 107, op := .fa 2 (.t 10) },
  { dst := some 108, op := .ld none (.t 107), pre := [] },
  { dst := some 109, op := .call .pure (.c (.fn 29 [] [])) [.t 106, .t 108], pre := [] },
  { dst := some 110, op := .fa 2 (.t 10) },
  { dst := some 111, op := .ld none (.t 110), pre := [] },
  { dst := some 112, op := .fa 1 (.t 10) },
  { dst := some 113, op := .ld none (.t 112), pre := [] },
  { dst := some 114, op := .call .pure (.c (.fn 32 [] [])) [.t 111, .t 113], pre := [] },
  { dst := some 115, op := .call .pure (.c (.fn 29 [] [])) [.t 109, .t 114], pre := [] },
  { dst := some 116, op := .fa 3 (.t 10) },
  { dst := some 117, op := .ld none (.t 116), pre := [] },
  { dst := some 118, op := .fa 3 (.t 10) },
  { dst := some 119, op := .ld none (.t 118), pre := [] },
  { dst := some 120, op := .call .pure (.c (.fn 32 [] [])) [.t 117, .t 119], pre := [] },
  { dst := some 121, op := .call .pure (.c (.fn 29 [] [])) [.t 115, .t 120], pre := [] },
  { dst := some 122, op := .build (List.replicate 4 (.nilp)) [(0, 1, .t 73), (1, 1, .t 90), (2, 1, .t 104), (3, 1, .t 121)] },
  { dst := some 11, op := .new (List.replicate 4 (.nilp)) },
  { dst := none, op := .stL 4 (.t 11) (.t 122), pre := [66] }])
 (.seq (.reg true [{ dst := some 123, op := .fa 0 (.t 11) },
  { dst := some 124, op := .ld none (.t 123), pre := [] },
  { dst := some 125, op := .fa 0 (.t 10) },
  { dst := some 126, op := .ld none (.t 125), pre := [] },
  { dst := some 127, op := .call .pure (.c (.fn 29 [] [])) [.t 124, .t 126], pre := [] },
  { dst := some 128, op := .fa 1 (.t 11) },
  { dst := some 129, op := .ld none (.t 128), pre := [] },
  { dst := some 130, op := .fa 1 (.t 10) },
  { dst := some 131, op := .ld none (.t 130), pre := [] },
  { dst := some 132, op := .call .pure (.c (.fn 29 [] [])) [.t 129, .t 131], pre := [] },
  { dst := some 133, op := .fa 2 (.t 11) },
  { dst := some 134, op := .ld none (.t 133), pre := [] },
  { dst := some 135, op := .fa 2 (.t 10) },
  { dst := some 136, op := .ld none (.t 135), pre := [] },
  { dst := some 137, op := .call .pure (.c (.fn 29 [] [])) [.t 134, .t 136], pre := [] },
  { dst := some 138, op := .fa 3 (.t 11) },
  { dst := some 139, op := .ld none (.t 138), pre := [] },
  { dst := some 140, op := .fa 3 (.t 10) },
  { dst := some 141, op := .ld none (.t 140), pre := [] },
  { dst := some 142, op := .call .pure (.c (.fn 29 [] [])) [.t 139, .t 141], pre := [] },
  { dst := some 143, op := .build (List.replicate 4 (.nilp)) [(0, 1, .t 127), (1, 1, .t 132), (2, 1, .t 137), (3, 1, .t 142)] },
  { dst := none, op := .st 4 (.t 11) (.t 143), pre := [] }])
 (.seq (.seq (.reg false [{ dst := some 144, op := .fa 0 (.t 11) },
  { dst := some 145, op := .ld none (.t 144) },
  { dst := some 146, op := .fa 0 (.t 10) },
  { dst := some 147, op := .ld none (.t 146) },
  { dst := some 148, op := .call .pure (.c (.fn 36 [] [])) [.t 145, .t 147] },
  { dst := some 149, op := .mv (.t 148) },
  { dst := some 150, op := .fa 1 (.t 11), grd := some (149, true) },
  { dst := some 151, op := .ld none (.t 150), grd := some (149, true) },
  { dst := some 152, op := .fa 1 (.t 10), grd := some (149, true) },
  { dst := some 153, op := .ld none (.t 152), grd := some (149, true) },
  { dst := some 154, op := .call .pure (.c (.fn 36 [] [])) [.t 151, .t 153], grd := some (149, true) },
  { dst := some 155, op := .pick (.t 149) (.t 154) (.c (.b false)) },
  { dst := some 156, op := .mv (.t 155) },
  { dst := some 157, op := .fa 2 (.t 11), grd := some (156, true) },
  { dst := some 158, op := .ld none (.t 157), grd := some (156, true) },
  { dst := some 159, op := .fa 2 (.t 10), grd := some (156, true) },
  { dst := some 160, op := .ld none (.t 159), grd := some (156, true) },
  { dst := some 161, op := .call .pure (.c (.fn 36 [] [])) [.t 158, .t 160], grd := some (156, true) },
  { dst := some 162, op := .pick (.t 156) (.t 161) (.c (.b false)) },
  { dst := some 163, op := .mv (.t 162) },
  { dst := some 164, op := .fa 3 (.t 11), grd := some (163, true) },
  { dst := some 165, op := .ld none (.t 164), grd := some (163, true) },
  { dst := some 166, op := .fa 3 (.t 10), grd := some (163, true) },
  { dst := some 167, op := .ld none (.t 166), grd := some (163, true) },
  { dst := some 168, op := .call .pure (.c (.fn 36 [] [])) [.t 165, .t 167], grd := some (163, true) },
  { dst := some 169, op := .pick (.t 163) (.t 168) (.c (.b false)) }])
 (.cond (.t 169) (.seq (.reg false [{ dst := some 170, op := .ld (some 4) (.t 11) },
  { dst := none, op := .st 4 (.t 2) (.t 170) }])
 .ret)
 .skip))
 (.reg false [{ dst := some 171, op := .ld (some 4) (.t 11) },
  { dst := none, op := .st 4 (.t 10) (.t 171) }]))))))))))))))) }
def A_xref19_Ppo : AFun := { res := [.t 2], body := (.seq (.reg false [{ dst := some 1, op := .box (.t 0) },
  { dst := some 2, op := .mv (.c (.nilp)) }])
 (.seq (.reg false [{ dst := some 6, op := .ld (some 8) (.t 1) },
  { dst := some 7, op := .call .pure (.c (.fn 171 [] [])) [.t 6] },
  { dst := some 3, op := .new (List.replicate 4 (.nilp)) },
  { dst := none, op := .st 4 (.t 3) (.t 7) }])
 (.seq (.reg true [{ dst := some 8, op := .ld (some 8) (.t 1), pre := [] },
  { dst := some 9, op := .call .pure (.c (.fn 225 [] [])) [.t 8, .c (.i .i64 1), .c (.i .i64 0), .c (.i .i64 4)], pre := [] },
  { dst := some 10, op := .ld (some 8) (.t 1), pre := [] },
  { dst := some 11, op := .call .pure (.c (.fn 225 [] [])) [.t 10, .c (.i .i64 2), .c (.i .i64 0), .c (.i .i64 4)], pre := [] },
  { dst := some 4, op := .mv (.t 9) },
  { dst := some 5, op := .mv (.t 11) }])
 (.seq (.reg true [{ dst := some 12, op := .mv (.t 4) },
  { dst := some 13, op := .fa 0 (.t 3) },
  { dst := some 14, op := .ld none (.t 13), pre := [] },
  { dst := some 15, op := .call .pure (.c (.fn 32 [] [])) [.t 12, .t 14], pre := [] },
  { dst := some 16, op := .mv (.t 4) },
  { dst := some 17, op := .call .pure (.c (.fn 32 [] [])) [.t 15, .t 16], pre := [] },
  { dst := some 18, op := .mv (.t 4) },
  { dst := some 19, op := .fa 1 (.t 3) },
  { dst := some 20, op := .ld none (.t 19), pre := [] },
  { dst := some 21, op := .call .pure (.c (.fn 32 [] [])) [.t 18, .t 20], pre := [] },
  { dst := some 22, op := .mv (.t 5) },
  { dst := some 23, op := .call .pure (.c (.fn 32 [] [])) [.t 21, .t 22], pre := [] },
  { dst := some 24, op := .call .pure (.c (.fn 29 [] [])) [.t 17, .t 23], pre := [] },
  { dst := some 2, op := .mv (.t 24) }])
 .ret)))) }
def A_xref19_Rdw : AFun := { res := [.t 2], body := (.seq (.reg false [{ dst := some 1, op := .box (.t 0) },
  { dst := some 2, op := .mv (.c (.nilp)) }])
 (.seq (.reg true [{ dst := some 3, op := .ld (some 8) (.t 1), pre := [] },
  { dst := some 4, op := .call .pure (.c (.fn 224 [] [])) [.t 3], pre := [] },
  { dst := some 5, op := .ld (some 8) (.t 1), pre := [] },
  { dst := some 6, op := .call .pure (.c (.fn 226 [] [])) [.t 5], pre := [] },
  { dst := some 7, op := .ld (some 8) (.t 1), pre := [] },
  { dst := some 8, op := .call .pure (.c (.fn 227 [] [])) [.t 7], pre := [] },
  { dst := some 9, op := .call .pure (.c (.fn 32 [] [])) [.t 6, .t 8], pre := [] },
  { dst := some 10, op := .call .pure (.c (.fn 30 [] [])) [.t 4, .t 9], pre := [] },
  { dst := some 2, op := .mv (.t 10) }])
 .ret)) }
def A_xref19_Detour : AFun := { res := [.t 2], body := (.seq (.reg false [{ dst := some 1, op := .box (.t 0) },
  { dst := some 2, op := .mv (.c (.nilp)) }])
 (.seq (.reg true [{ dst := some 3, op := .ld (some 8) (.t 1), pre := [] },
  { dst := some 4, op := .call .pure (.c (.fn 224 [] [])) [.t 3], pre := [] },
  { dst := some 5, op := .ld (some 8) (.t 1), pre := [] },
  { dst := some 6, op := .call .pure (.c (.fn 228 [] [])) [.t 5], pre := [] },
  { dst := some 7, op := .ld (some 8) (.t 1), pre := [] },
  { dst := some 8, op := .call .pure (.c (.fn 227 [] [])) [.t 7], pre := [] },
  { dst := some 9, op := .call .pure (.c (.fn 32 [] [])) [.t 6, .t 8], pre := [] },
  { dst := some 10, op := .call .pure (.c (.fn 30 [] [])) [.t 4, .t 9], pre := [] },
  { dst := some 2, op := .mv (.t 10) }])
 .ret)) }
def A_xref19_M : AFun := { res := [.t 2], body := (.seq (.reg false [{ dst := some 1, op := .box (.t 0) },
  { dst := some 2, op := .mv (.c (.nilp)) }])
 (.seq (.reg true [{ dst := some 3, op := .ld (some 8) (.t 1), pre := [] },
  { dst := some 4, op := .call .pure (.c (.fn 225 [] [])) [.t 3, .c (.i .i64 1), .c (.i .i64 0), .c (.i .i64 4)], pre := [] },
  { dst := some 5, op := .ld (some 8) (.t 1), pre := [] },
  { dst := some 6, op := .call .pure (.c (.fn 225 [] [])) [.t 5, .c (.i .i64 2), .c (.i .i64 0), .c (.i .i64 4)], pre := [] },
  { dst := some 7, op := .call .pure (.c (.fn 29 [] [])) [.t 4, .t 6], pre := [] },
  { dst := some 2, op := .mv (.t 7) }])
 .ret)) }
def A_xref19_Ploc : AFun := { res := [.t 2], body := (.seq (.reg false [{ dst := some 1, op := .box (.t 0) },
  { dst := some 2, op := .mv (.c (.nilp)) }])
 (.seq (.reg true [{ dst := some 3, op := .ld (some 8) (.t 1), pre := [] },
  { dst := some 4, op := .ld (some 8) (.t 1), pre := [] },
  { dst := some 5, op := .call .pure (.c (.fn 73 [] [])) [.t 4], pre := [] },
  { dst := some 6, op := .call .pure (.c (.fn 247 [] [])) [.t 3, .t 5], pre := [] },
  { dst := some 2, op := .mv (.t 6) }])
 .ret)) }
def A_xref19_fre : AFun := { res := [.t 2], body := (.seq (.reg false [{ dst := some 1, op := .box (.t 0) },
  { dst := some 2, op := .mv (.c (.nilp)) }])
 (.seq (.reg true [{ dst := some 3, op := .ld (some 8) (.t 1), pre := [] },
  { dst := some 4, op := .ld (some 8) (.t 1), pre := [] },
  { dst := some 5, op := .call .pure (.c (.fn 71 [] [])) [.t 4], pre := [] },
  { dst := some 6, op := .call .pure (.c (.fn 75 [] [])) [.t 3, .t 5], pre := [] },
  { dst := some 2, op := .mv (.t 6) }])
 .ret)) }
def A_xref19_rfe : AFun := { res := [.t 2], body := (.seq (.reg false [{ dst := some 1, op := .box (.t 0) },
  { dst := some 2, op := .mv (.c (.nilp)) }])
 (.seq (.reg true [{ dst := some 3, op := .ld (some 8) (.t 1), pre := [] },
  { dst := some 4, op := .ld (some 8) (.t 1), pre := [] },
  { dst := some 5, op := .call .pure (.c (.fn 69 [] [])) [.t 4], pre := [] },
  { dst := some 6, op := .call .pure (.c (.fn 75 [] [])) [.t 3, .t 5], pre := [] },
  { dst := some 2, op := .mv (.t 6) }])
 .ret)) }
def A_xref19_coe : AFun := { res := [.t 2], body := (.seq (.reg false [{ dst := some 1, op := .box (.t 0) },
  { dst := some 2, op := .mv (.c (.nilp)) }])
 (.seq (.reg true [{ dst := some 3, op := .ld (some 8) (.t 1), pre := [] },
  { dst := some 4, op := .ld (some 8) (.t 1), pre := [] },
  { dst := some 5, op := .call .pure (.c (.fn 70 [] [])) [.t 4], pre := [] },
  { dst := some 6, op := .call .pure (.c (.fn 75 [] [])) [.t 3, .t 5], pre := [] },
  { dst := some 2, op := .mv (.t 6) }])
 .ret)) }
def A_xref19_Mine : AFun := { res := [.t 4], body := (.seq (.reg false [{ dst := some 2, op := .box (.t 0) },
  { dst := some 4, op := .mv (.c (.nilp)) }])
 (.seq (.reg false [{ dst := some 8, op := .mv (.t 1) },
  { dst := some 9, op := .nilck (.t 8) },
  { dst := some 10, op := .fa 0 (.t 9) },
  { dst := some 11, op := .ld none (.t 10) },
  { dst := some 12, op := .call .thaw (.c (.fn 27 [] [])) [.t 11, .c (.sl [] 0 .rig)] },
  { dst := some 5, op := .mv (.t 12) }])
 (.seq (.seq (.reg false [{ dst := some 6, op := .mv (.c (.i .i64 0)) }])
 (.blk 0 (.loop (.seq (.seq (.reg false [{ dst := some 13, op := .mv (.t 6) },
  { dst := some 14, op := .mv (.t 1) },
  { dst := some 15, op := .nilck (.t 14) },
  { dst := some 16, op := .fa 0 (.t 15) },
  { dst := some 17, op := .ld none (.t 16) },
  { dst := some 18, op := .bin .lss (.t 13) (.t 17) }])
 (.cond (.t 18) .skip
 (.ext 0)))
 (.seq (.blk 1 (.seq (.reg false [{ dst := some 7, op := .mv (.c (.i .i64 0)) }])
 (.blk 2 (.loop (.seq (.seq (.reg false [{ dst := some 21, op := .mv (.t 7) },
  { dst := some 22, op := .mv (.t 1) },
  { dst := some 23, op := .nilck (.t 22) },
  { dst := some 24, op := .fa 0 (.t 23) },
  { dst := some 25, op := .ld none (.t 24) },
  { dst := some 26, op := .bin .lss (.t 21) (.t 25) }])
 (.cond (.t 26) .skip
 (.ext 2)))
 (.seq (.blk 3 (.reg true [{ dst := some 29, op := .mv (.t 5) },
  { dst := some 30, op := .mv (.t 6) },
  { dst := some 31, op := .mv (.t 7) },
  { dst := some 32, op := .mv (.t 1) },
  { dst := some 33, op := .mv (.t 6) },
  { dst := some 34, op := .mv (.t 7) },
  { dst := some 35, op := .nilck (.t 32) },
  { dst := some 36, op := .fa 1 (.t 35) },
  { dst := some 37, op := .iaa 40 40 (.t 36) (.t 33) },
  { dst := some 38, op := .iaa 40 1 (.t 37) (.t 34) },
  { dst := some 39, op := .ld none (.t 38), pre := [] },
  { dst := some 40, op := .mv (.t 39) },
  { dst := some 41, op := .fa 1 (.t 2), grd := some (40, true) },
  { dst := some 42, op := .ld none (.t 41), grd := some (40, true), pre := [] },
  { dst := some 43, op := .mv (.t 6), grd := some (40, true) },
  { dst := some 44, op := .ia 6 (.t 42) (.t 43), grd := some (40, true) },
  { dst := some 45, op := .fa 0 (.t 44), grd := some (40, true) },
  { dst := some 46, op := .ld none (.t 45), grd := some (40, true), pre := [] },
  { dst := some 47, op := .bin .gtr (.t 46) (.c (.i .i64 0)), grd := some (40, true) },
  { dst := some 48, op := .pick (.t 40) (.t 47) (.c (.b false)) },
  { dst := some 49, op := .mv (.t 48) },
  { dst := some 50, op := .fa 1 (.t 2), grd := some (49, true) },
  { dst := some 51, op := .ld none (.t 50), grd := some (49, true), pre := [] },
  { dst := some 52, op := .mv (.t 6), grd := some (49, true) },
  { dst := some 53, op := .ia 6 (.t 51) (.t 52), grd := some (49, true) },
  { dst := some 54, op := .fa 0 (.t 53), grd := some (49, true) },
  { dst := some 55, op := .ld none (.t 54), grd := some (49, true), pre := [] },
  { dst := some 56, op := .fa 1 (.t 2), grd := some (49, true) },
  { dst := some 57, op := .ld none (.t 56), grd := some (49, true), pre := [] },
  { dst := some 58, op := .mv (.t 7), grd := some (49, true) },
  { dst := some 59, op := .ia 6 (.t 57) (.t 58), grd := some (49, true) },
  { dst := some 60, op := .fa 0 (.t 59), grd := some (49, true) },
  { dst := some 61, op := .ld none (.t 60), grd := some (49, true), pre := [] },
  { dst := some 62, op := .bin .eql (.t 55) (.t 61), grd := some (49, true) },
  { dst := some 63, op := .pick (.t 49) (.t 62) (.c (.b false)) },
  { dst := some 64, op := .nilck (.t 29) },
  { dst := some 65, op := .fa 1 (.t 64) },
  { dst := some 66, op := .iaa 40 40 (.t 65) (.t 30) },
  { dst := some 67, op := .iaa 40 1 (.t 66) (.t 31) },
  { dst := none, op := .st 1 (.t 67) (.t 63), pre := [] }]))
 (.reg false [{ dst := some 27, op := .mv (.t 7) },
  { dst := some 28, op := .bin .add (.t 27) (.c (.i .i64 1)) },
  { dst := some 7, op := .mv (.t 28) }])))))))
 (.reg false [{ dst := some 19, op := .mv (.t 6) },
  { dst := some 20, op := .bin .add (.t 19) (.c (.i .i64 1)) },
  { dst := some 6, op := .mv (.t 20) }]))))))
 (.seq (.reg false [{ dst := some 68, op := .mv (.t 5) },
  { dst := some 4, op := .mv (.t 68) }])
 .ret)))) }
structure Pk_xref19 (F : Funs) : Prop where
  xref19_Parts : F 171 = some A_xref19_Parts
  xref19_Ppo : F 173 = some A_xref19_Ppo
  xref19_Rdw : F 174 = some A_xref19_Rdw
  xref19_Detour : F 175 = some A_xref19_Detour
  xref19_M : F 222 = some A_xref19_M
  xref19_Ploc : F 224 = some A_xref19_Ploc
  xref19_fre : F 226 = some A_xref19_fre
  xref19_rfe : F 227 = some A_xref19_rfe
  xref19_coe : F 228 = some A_xref19_coe
  xref19_Mine : F 247 = some A_xref19_Mine
end Go.Ab
end
section
set_option linter.unusedVariables false
set_option linter.unusedSimpArgs false
namespace Go.Ab
variable {F : Funs}
theorem RefF.co (S : RefF F) {X : Gr} (hX : FewG X) (h : GraphOk X) : pureS F 70 [.agg (grC X)] = some (.ptr (matC X.evs.length (anyM (coX X X.co.length)))) :=
  sp_mCo S.p9.xref09_Co S.px.xref01_New (X := X) h.n40 (by have := hX.co; omega) (fun j hj => by
    have hm : X.co.getD j [] ∈ X.co := by
      rw [List.getD_eq_getElem?_getD, List.getElem?_eq_getElem hj]; exact List.getElem_mem hj
    have := hX.cos _ hm
    have n40 := h.n40
    exact ⟨by omega, fun i hi => by have := h.cor j hj i hi; omega⟩)
section
variable {X : Gr} (h : GraphOk X)
include h
end
section
variable {X : Gr} (h : GraphOk X)
include h
end
set_option maxRecDepth 100000 in
section
variable (S : RefF F) (p : Pk_xref19 F) {X : Gr} (hX : FewG X) (h : GraphOk X)
include S p hX h
end
end Go.Ab
end
section
namespace Go.Ab
def A_xref11_Bob : AFun := { res := [.t 2], body := (.seq (.reg false [{ dst := some 1, op := .box (.t 0) },
  { dst := some 2, op := .mv (.c (.nilp)) }])
 (.seq (.reg true [{ dst := some 6, op := .ld (some 8) (.t 1), pre := [] },
  { dst := some 7, op := .call .pure (.c (.fn 84 [] [])) [.t 6], pre := [] },
  { dst := some 8, op := .ld (some 8) (.t 1), pre := [] },
  { dst := some 9, op := .call .pure (.c (.fn 225 [] [])) [.t 8, .c (.i .i64 3), .c (.i .i64 1), .c (.i .i64 4)], pre := [] },
  { dst := some 3, op := .mv (.t 7) },
  { dst := some 4, op := .mv (.t 9) }])
 (.seq (.reg true [{ dst := some 10, op := .mv (.t 3) },
  { dst := some 11, op := .ld (some 8) (.t 1), pre := [] },
  { dst := some 12, op := .call .pure (.c (.fn 232 [] [])) [.t 11], pre := [] },
  { dst := some 13, op := .call .pure (.c (.fn 32 [] [])) [.t 10, .t 12], pre := [] },
  { dst := some 14, op := .ld (some 8) (.t 1), pre := [] },
  { dst := some 15, op := .call .pure (.c (.fn 234 [] [])) [.t 14], pre := [] },
  { dst := some 16, op := .mv (.t 3) },
  { dst := some 17, op := .call .pure (.c (.fn 32 [] [])) [.t 15, .t 16], pre := [] },
  { dst := some 18, op := .call .pure (.c (.fn 29 [] [])) [.t 13, .t 17], pre := [] },
  { dst := some 19, op := .mv (.t 3) },
  { dst := some 20, op := .mv (.t 4) },
  { dst := some 21, op := .call .pure (.c (.fn 32 [] [])) [.t 19, .t 20], pre := [] },
  { dst := some 22, op := .call .pure (.c (.fn 29 [] [])) [.t 18, .t 21], pre := [] },
  { dst := some 23, op := .mv (.t 4) },
  { dst := some 24, op := .mv (.t 3) },
  { dst := some 25, op := .call .pure (.c (.fn 32 [] [])) [.t 23, .t 24], pre := [] },
  { dst := some 26, op := .call .pure (.c (.fn 29 [] [])) [.t 22, .t 25], pre := [] },
  { dst := some 5, op := .mv (.t 26) }])
 (.seq (.reg true [{ dst := some 27, op := .mv (.t 5) },
  { dst := some 28, op := .ld (some 8) (.t 1), pre := [] },
  { dst := some 29, op := .call .pure (.c (.fn 232 [] [])) [.t 28], pre := [] },
  { dst := some 30, op := .ld (some 8) (.t 1), pre := [] },
  { dst := some 31, op := .call .pure (.c (.fn 73 [] [])) [.t 30], pre := [] },
  { dst := some 32, op := .call .pure (.c (.fn 32 [] [])) [.t 29, .t 31], pre := [] },
  { dst := some 33, op := .ld (some 8) (.t 1), pre := [] },
  { dst := some 34, op := .call .pure (.c (.fn 230 [] [])) [.t 33], pre := [] },
  { dst := some 35, op := .call .pure (.c (.fn 32 [] [])) [.t 32, .t 34], pre := [] },
  { dst := some 36, op := .call .pure (.c (.fn 29 [] [])) [.t 27, .t 35], pre := [] },
  { dst := some 2, op := .mv (.t 36) }])
 .ret)))) }
def A_xref11_Deps : AFun := { res := [.t 2], body := (.seq (.reg false [{ dst := some 1, op := .box (.t 0) },
  { dst := some 2, op := .mv (.c (.nilp)) }])
 (.seq (.reg true [{ dst := some 6, op := .ld (some 8) (.t 1), pre := [] },
  { dst := some 7, op := .fa 5 (.t 1) },
  { dst := some 8, op := .ld none (.t 7), pre := [] },
  { dst := some 9, op := .call .pure (.c (.fn 223 [] [])) [.t 6, .t 8], pre := [] },
  { dst := some 10, op := .ld (some 8) (.t 1), pre := [] },
  { dst := some 11, op := .fa 6 (.t 1) },
  { dst := some 12, op := .ld none (.t 11), pre := [] },
  { dst := some 13, op := .call .pure (.c (.fn 223 [] [])) [.t 10, .t 12], pre := [] },
  { dst := some 14, op := .call .pure (.c (.fn 29 [] [])) [.t 9, .t 13], pre := [] },
  { dst := some 3, op := .mv (.t 14) }])
 (.seq (.reg false [{ dst := some 15, op := .fa 1 (.t 1) },
  { dst := some 16, op := .ld none (.t 15) },
  { dst := some 17, op := .len (.t 16) },
  { dst := some 18, op := .call .thaw (.c (.fn 27 [] [])) [.t 17, .c (.sl [] 0 .rig)] },
  { dst := some 4, op := .mv (.t 18) }])
 (.seq (.seq (.reg false [{ dst := some 5, op := .mv (.c (.i .i64 0)) }])
 (.blk 0 (.loop (.seq (.seq (.reg false [{ dst := some 19, op := .mv (.t 5) },
  { dst := some 20, op := .fa 1 (.t 1) },
  { dst := some 21, op := .ld none (.t 20) },
  { dst := some 22, op := .len (.t 21) },
  { dst := some 23, op := .bin .lss (.t 19) (.t 22) }])
 (.cond (.t 23) .skip
 (.ext 0)))
 (.seq (.blk 1 (.reg true [{ dst := some 26, op := .mv (.t 4) },
  { dst := some 27, op := .mv (.t 5) },
  { dst := some 28, op := .mv (.t 5) },
  { dst := some 29, op := .fa 1 (.t 1) },
  { dst := some 30, op := .ld none (.t 29), pre := [] },
  { dst := some 31, op := .mv (.t 5) },
  { dst := some 32, op := .ia 6 (.t 30) (.t 31) },
  { dst := some 33, op := .fa 1 (.t 32) },
  { dst := some 34, op := .ld none (.t 33), pre := [] },
  { dst := some 35, op := .bin .eql (.t 34) (.c (.i .i64 1)) },
  { dst := some 36, op := .mv (.t 35) },
  { dst := some 37, op := .fa 1 (.t 1), grd := some (36, true) },
  { dst := some 38, op := .ld none (.t 37), grd := some (36, true), pre := [] },
  { dst := some 39, op := .mv (.t 5), grd := some (36, true) },
  { dst := some 40, op := .ia 6 (.t 38) (.t 39), grd := some (36, true) },
  { dst := some 41, op := .fa 5 (.t 40), grd := some (36, true) },
  { dst := some 42, op := .ld none (.t 41), grd := some (36, true), pre := [] },
  { dst := some 43, op := .pick (.t 36) (.t 42) (.c (.b false)) },
  { dst := some 44, op := .nilck (.t 26) },
  { dst := some 45, op := .fa 1 (.t 44) },
  { dst := some 46, op := .iaa 40 40 (.t 45) (.t 27) },
  { dst := some 47, op := .iaa 40 1 (.t 46) (.t 28) },
  { dst := none, op := .st 1 (.t 47) (.t 43), pre := [] }]))
 (.reg false [{ dst := some 24, op := .mv (.t 5) },
  { dst := some 25, op := .bin .add (.t 24) (.c (.i .i64 1)) },
  { dst := some 5, op := .mv (.t 25) }]))))))
 (.seq (.imm 4 (.reg false [{ dst := some 48, op := .mv (.t 3) },
  { dst := some 49, op := .mv (.t 4) },
  { dst := some 50, op := .ld (some 8) (.t 1) },
  { dst := some 51, op := .call .pure (.c (.fn 84 [] [])) [.t 50] },
  { dst := some 52, op := .call .pure (.c (.fn 32 [] [])) [.t 49, .t 51] },
  { dst := some 53, op := .call .pure (.c (.fn 29 [] [])) [.t 48, .t 52] },
  { dst := some 2, op := .mv (.t 53) }]))
 .ret))))) }
def A_xref11_Ppo : AFun := { res := [.t 2], body := (.seq (.reg false [{ dst := some 1, op := .box (.t 0) },
  { dst := some 2, op := .mv (.c (.nilp)) }])
 (.seq (.reg false [{ dst := some 5, op := .ld (some 8) (.t 1) },
  { dst := some 6, op := .call .pure (.c (.fn 225 [] [])) [.t 5, .c (.i .i64 1), .c (.i .i64 0), .c (.i .i64 1)] },
  { dst := some 3, op := .mv (.t 6) }])
 (.seq (.reg true [{ dst := some 7, op := .ld (some 8) (.t 1), pre := [] },
  { dst := some 8, op := .ld (some 8) (.t 1), pre := [] },
  { dst := some 9, op := .call .pure (.c (.fn 69 [] [])) [.t 8], pre := [] },
  { dst := some 10, op := .call .pure (.c (.fn 74 [] [])) [.t 7, .t 9], pre := [] },
  { dst := some 4, op := .mv (.t 10) }])
 (.seq (.reg true [{ dst := some 11, op := .mv (.t 3) },
  { dst := some 12, op := .ld (some 8) (.t 1), pre := [] },
  { dst := some 13, op := .call .pure (.c (.fn 256 [] [])) [.t 12], pre := [] },
  { dst := some 14, op := .mv (.t 4) },
  { dst := some 15, op := .call .pure (.c (.fn 29 [] [])) [.t 13, .t 14], pre := [] },
  { dst := some 16, op := .call .pure (.c (.fn 34 [] [])) [.t 15], pre := [] },
  { dst := some 17, op := .call .pure (.c (.fn 32 [] [])) [.t 11, .t 16], pre := [] },
  { dst := some 18, op := .ld (some 8) (.t 1), pre := [] },
  { dst := some 19, op := .call .pure (.c (.fn 230 [] [])) [.t 18], pre := [] },
  { dst := some 20, op := .call .pure (.c (.fn 32 [] [])) [.t 17, .t 19], pre := [] },
  { dst := some 2, op := .mv (.t 20) }])
 .ret)))) }
def A_xref11_Detour : AFun := { res := [.t 2], body := (.seq (.reg false [{ dst := some 1, op := .box (.t 0) },
  { dst := some 2, op := .mv (.c (.nilp)) }])
 (.seq (.reg true [{ dst := some 5, op := .ld (some 8) (.t 1), pre := [] },
  { dst := some 6, op := .ld (some 8) (.t 1), pre := [] },
  { dst := some 7, op := .call .pure (.c (.fn 70 [] [])) [.t 6], pre := [] },
  { dst := some 8, op := .call .pure (.c (.fn 75 [] [])) [.t 5, .t 7], pre := [] },
  { dst := some 9, op := .ld (some 8) (.t 1), pre := [] },
  { dst := some 10, op := .ld (some 8) (.t 1), pre := [] },
  { dst := some 11, op := .call .pure (.c (.fn 69 [] [])) [.t 10], pre := [] },
  { dst := some 12, op := .call .pure (.c (.fn 75 [] [])) [.t 9, .t 11], pre := [] },
  { dst := some 3, op := .mv (.t 8) },
  { dst := some 4, op := .mv (.t 12) }])
 (.seq (.reg true [{ dst := some 13, op := .mv (.t 3) },
  { dst := some 14, op := .mv (.t 4) },
  { dst := some 15, op := .call .pure (.c (.fn 32 [] [])) [.t 13, .t 14], pre := [] },
  { dst := some 16, op := .ld (some 8) (.t 1), pre := [] },
  { dst := some 17, op := .call .pure (.c (.fn 84 [] [])) [.t 16], pre := [] },
  { dst := some 18, op := .call .pure (.c (.fn 30 [] [])) [.t 15, .t 17], pre := [] },
  { dst := some 2, op := .mv (.t 18) }])
 .ret))) }
def A_xref11_Psc : AFun := { res := [.t 2], body := (.seq (.reg false [{ dst := some 1, op := .box (.t 0) },
  { dst := some 2, op := .mv (.c (.nilp)) }])
 (.seq (.reg true [{ dst := some 5, op := .ld (some 8) (.t 1), pre := [] },
  { dst := some 6, op := .call .pure (.c (.fn 225 [] [])) [.t 5, .c (.i .i64 3), .c (.i .i64 4), .c (.i .i64 4)], pre := [] },
  { dst := some 7, op := .ld (some 8) (.t 1), pre := [] },
  { dst := some 8, op := .call .pure (.c (.fn 185 [] [])) [.t 7], pre := [] },
  { dst := some 3, op := .mv (.t 6) },
  { dst := some 4, op := .mv (.t 8) }])
 (.seq (.reg true [{ dst := some 9, op := .mv (.t 3) },
  { dst := some 10, op := .mv (.t 4) },
  { dst := some 11, op := .call .pure (.c (.fn 32 [] [])) [.t 9, .t 10], pre := [] },
  { dst := some 12, op := .ld (some 8) (.t 1), pre := [] },
  { dst := some 13, op := .call .pure (.c (.fn 72 [] [])) [.t 12], pre := [] },
  { dst := some 14, op := .call .pure (.c (.fn 32 [] [])) [.t 11, .t 13], pre := [] },
  { dst := some 15, op := .mv (.t 4) },
  { dst := some 16, op := .call .pure (.c (.fn 32 [] [])) [.t 14, .t 15], pre := [] },
  { dst := some 17, op := .mv (.t 3) },
  { dst := some 18, op := .call .pure (.c (.fn 32 [] [])) [.t 16, .t 17], pre := [] },
  { dst := some 2, op := .mv (.t 18) }])
 .ret))) }
def A_xref11_Ar : AFun := { res := [.t 2], body := (.seq (.reg false [{ dst := some 1, op := .box (.t 0) },
  { dst := some 2, op := .mv (.c (.nilp)) }])
 (.seq (.reg true [{ dst := some 4, op := .ld (some 8) (.t 1), pre := [] },
  { dst := some 5, op := .ld (some 8) (.t 1), pre := [] },
  { dst := some 6, op := .call .pure (.c (.fn 69 [] [])) [.t 5], pre := [] },
  { dst := some 7, op := .call .pure (.c (.fn 75 [] [])) [.t 4, .t 6], pre := [] },
  { dst := some 3, op := .mv (.t 7) }])
 (.seq (.reg true [{ dst := some 8, op := .mv (.t 3) },
  { dst := some 9, op := .ld (some 8) (.t 1), pre := [] },
  { dst := some 10, op := .call .pure (.c (.fn 255 [] [])) [.t 9], pre := [] },
  { dst := some 11, op := .call .pure (.c (.fn 29 [] [])) [.t 8, .t 10], pre := [] },
  { dst := some 12, op := .ld (some 8) (.t 1), pre := [] },
  { dst := some 13, op := .call .pure (.c (.fn 257 [] [])) [.t 12], pre := [] },
  { dst := some 14, op := .call .pure (.c (.fn 29 [] [])) [.t 11, .t 13], pre := [] },
  { dst := some 15, op := .ld (some 8) (.t 1), pre := [] },
  { dst := some 16, op := .call .pure (.c (.fn 258 [] [])) [.t 15], pre := [] },
  { dst := some 17, op := .call .pure (.c (.fn 29 [] [])) [.t 14, .t 16], pre := [] },
  { dst := some 18, op := .ld (some 8) (.t 1), pre := [] },
  { dst := some 19, op := .call .pure (.c (.fn 259 [] [])) [.t 18], pre := [] },
  { dst := some 20, op := .call .pure (.c (.fn 29 [] [])) [.t 17, .t 19], pre := [] },
  { dst := some 2, op := .mv (.t 20) }])
 .ret))) }
structure Pk_xref11 (F : Funs) : Prop where
  xref11_Bob : F 255 = some A_xref11_Bob
  xref11_Deps : F 256 = some A_xref11_Deps
  xref11_Ppo : F 257 = some A_xref11_Ppo
  xref11_Detour : F 258 = some A_xref11_Detour
  xref11_Psc : F 259 = some A_xref11_Psc
  xref11_Ar : F 260 = some A_xref11_Ar
end Go.Ab
end
section
set_option linter.unusedVariables false
set_option linter.unusedSimpArgs false
namespace Go.Ab
variable {F : Funs}
def r11 (X : Gr) : Mx := opM (fun x y => x || y) (newM X.evs.length X.data) (newM X.evs.length X.ctrl) X.evs.length
theorem EqN.z {n : Nat} (hn : n ≤ 40) {A : Mx} {R : Rw} (h : EqN n A R) : EqN n A (orR (newR n []) R) :=
  ⟨wf_or (wf_new hn _) h.1, fun a b ha hb' => by
    have hz := (EqN.new hn []).2 a b ha hb'
    rw [h.2 a b ha hb', hb_or, ← hz]
    simp [newM]⟩
section
variable {X : Gr} (h : GraphOk X)
include h
end
set_option maxRecDepth 100000 in
section
variable (S : RefF F) (p : Pk_xref11 F) (p10 : Pk_xref10 F) {X : Gr} (hX : FewG X) (h : GraphOk X)
include S p p10 hX h
omit S p p10 h in
theorem FewG.l1 : X.data.length ≤ 1000 ∧ X.ctrl.length ≤ 1000 ∧ X.rmw.length ≤ 1000 := by
  have h1 := hX.data
  have h2 := hX.ctrl
  have h3 := hX.rmw
  omega
end
end Go.Ab
end
section
namespace Go.Ab
def A_xref12_Coherent : AFun := { res := [.t 2], body := (.seq (.reg false [{ dst := some 1, op := .box (.t 0) },
  { dst := some 2, op := .mv (.c (.b false)) }])
 (.seq (.reg false [{ dst := some 4, op := .ld (some 8) (.t 1) },
  { dst := some 5, op := .call .pure (.c (.fn 185 [] [])) [.t 4] },
  { dst := some 3, op := .mv (.t 5) }])
 (.seq (.reg false [{ dst := some 6, op := .mv (.t 3) },
  { dst := some 7, op := .call .pure (.c (.fn 265 [] [])) [.t 6] },
  { dst := some 8, op := .un .not (.t 7) },
  { dst := some 9, op := .mv (.t 8) },
  { dst := some 10, op := .mv (.t 3), grd := some (9, true) },
  { dst := some 11, op := .ld (some 8) (.t 1), grd := some (9, true) },
  { dst := some 12, op := .call .pure (.c (.fn 72 [] [])) [.t 11], grd := some (9, true) },
  { dst := some 13, op := .call .pure (.c (.fn 32 [] [])) [.t 10, .t 12], grd := some (9, true) },
  { dst := some 14, op := .call .pure (.c (.fn 265 [] [])) [.t 13], grd := some (9, true) },
  { dst := some 15, op := .un .not (.t 14), grd := some (9, true) },
  { dst := some 16, op := .pick (.t 9) (.t 15) (.c (.b false)) },
  { dst := some 2, op := .mv (.t 16) }])
 .ret))) }
def A_xref12_Atomic : AFun := { res := [.t 2], body := (.seq (.reg false [{ dst := some 1, op := .box (.t 0) },
  { dst := some 2, op := .mv (.c (.b false)) }])
 (.seq (.reg true [{ dst := some 5, op := .ld (some 8) (.t 1), pre := [] },
  { dst := some 6, op := .ld (some 8) (.t 1), pre := [] },
  { dst := some 7, op := .call .pure (.c (.fn 71 [] [])) [.t 6], pre := [] },
  { dst := some 8, op := .call .pure (.c (.fn 75 [] [])) [.t 5, .t 7], pre := [] },
  { dst := some 9, op := .ld (some 8) (.t 1), pre := [] },
  { dst := some 10, op := .ld (some 8) (.t 1), pre := [] },
  { dst := some 11, op := .call .pure (.c (.fn 70 [] [])) [.t 10], pre := [] },
  { dst := some 12, op := .call .pure (.c (.fn 75 [] [])) [.t 9, .t 11], pre := [] },
  { dst := some 3, op := .mv (.t 8) },
  { dst := some 4, op := .mv (.t 12) }])
 (.seq (.reg false [{ dst := some 13, op := .ld (some 8) (.t 1) },
  { dst := some 14, op := .fa 4 (.t 1) },
  { dst := some 15, op := .ld none (.t 14) },
  { dst := some 16, op := .call .pure (.c (.fn 223 [] [])) [.t 13, .t 15] },
  { dst := some 17, op := .mv (.t 3) },
  { dst := some 18, op := .mv (.t 4) },
  { dst := some 19, op := .call .pure (.c (.fn 32 [] [])) [.t 17, .t 18] },
  { dst := some 20, op := .call .pure (.c (.fn 30 [] [])) [.t 16, .t 19] },
  { dst := some 21, op := .call .pure (.c (.fn 56 [] [])) [.t 20] },
  { dst := some 22, op := .len (.t 21) },
  { dst := some 23, op := .bin .eql (.t 22) (.c (.i .i64 0)) },
  { dst := some 2, op := .mv (.t 23) }])
 .ret))) }
def A_xref12_Ordered : AFun := { res := [.t 2], body := (.seq (.reg false [{ dst := some 1, op := .box (.t 0) },
  { dst := some 2, op := .mv (.c (.b false)) }])
 (.seq (.reg false [{ dst := some 3, op := .ld (some 8) (.t 1) },
  { dst := some 4, op := .call .pure (.c (.fn 260 [] [])) [.t 3] },
  { dst := some 5, op := .call .pure (.c (.fn 37 [] [])) [.t 4] },
  { dst := some 6, op := .un .not (.t 5) },
  { dst := some 2, op := .mv (.t 6) }])
 .ret)) }
def A_xref12_Consistent : AFun := { res := [.t 2], body := (.seq (.reg false [{ dst := some 1, op := .box (.t 0) },
  { dst := some 2, op := .mv (.c (.b false)) }])
 (.seq (.reg false [{ dst := some 3, op := .ld (some 8) (.t 1) },
  { dst := some 4, op := .call .pure (.c (.fn 45 [] [])) [.t 3] },
  { dst := some 5, op := .mv (.t 4) },
  { dst := some 6, op := .ld (some 8) (.t 1), grd := some (5, true) },
  { dst := some 7, op := .call .pure (.c (.fn 261 [] [])) [.t 6], grd := some (5, true) },
  { dst := some 8, op := .pick (.t 5) (.t 7) (.c (.b false)) },
  { dst := some 9, op := .mv (.t 8) },
  { dst := some 10, op := .ld (some 8) (.t 1), grd := some (9, true) },
  { dst := some 11, op := .call .pure (.c (.fn 262 [] [])) [.t 10], grd := some (9, true) },
  { dst := some 12, op := .pick (.t 9) (.t 11) (.c (.b false)) },
  { dst := some 13, op := .mv (.t 12) },
  { dst := some 14, op := .ld (some 8) (.t 1), grd := some (13, true) },
  { dst := some 15, op := .call .pure (.c (.fn 263 [] [])) [.t 14], grd := some (13, true) },
  { dst := some 16, op := .pick (.t 13) (.t 15) (.c (.b false)) },
  { dst := some 2, op := .mv (.t 16) }])
 .ret)) }
structure Pk_xref12 (F : Funs) : Prop where
  xref12_Coherent : F 261 = some A_xref12_Coherent
  xref12_Atomic : F 262 = some A_xref12_Atomic
  xref12_Ordered : F 263 = some A_xref12_Ordered
  xref12_Consistent : F 264 = some A_xref12_Consistent
end Go.Ab
end
section
set_option linter.unusedVariables false
set_option linter.unusedSimpArgs false
namespace Go.Ab
variable {F : Funs}
structure Ref12F (F : Funs) : Prop where
  r : RefF F
  p : Pk_xref11 F
  p10 : Pk_xref10 F
  p12 : Pk_xref12 F
  h83 : F 83 = some A_xref09_Com
  h72 : F 72 = some A_xref09_Eco
  hs : F 265 = some A_xref01_R_Self
  hlo : F 37 = some A_xref01_R_Loops
section
variable (S : Ref12F F) {X : Gr} (hX : FewG X) (h : GraphOk X)
include S hX h
end
end Go.Ab
end
section
set_option linter.unusedVariables false
set_option linter.unusedSimpArgs false
namespace Go.Ab
variable {F : Funs}
theorem splice_s (a : AV) (cs : List AV) (k : Nat) (v w : AV) (vs : List AV) : splice (a :: cs) (k + 1) (v :: w :: vs) = a :: splice cs k (v :: w :: vs) := by
  simp only [splice, List.take_succ_cons, List.cons_append, List.length_cons]
  rw [show k + 1 + (vs.length + 1 + 1) = (k + (vs.length + 1 + 1)) + 1 by omega, List.drop_succ_cons]
theorem splice_6 (b1 b2 b3 b4 b5 b6 c1 c2 c3 c4 c5 c6 : AV) (cs : List AV) : splice (b1 :: b2 :: b3 :: b4 :: b5 :: b6 :: cs) 0 [c1, c2, c3, c4, c5, c6] = c1 :: c2 :: c3 :: c4 :: c5 :: c6 :: cs := rfl
end Go.Ab
end
section
set_option linter.unusedVariables false
set_option linter.unusedSimpArgs false
namespace Go.Ab
variable {F : Funs}
def loopG (b : Bool) : Gr := ⟨2, [⟨0, 2, 0, 0, 0, false⟩, ⟨0, 2, 0, 1, 0, false⟩, ⟨1, 1, 0, 0, 1, false⟩, ⟨1, 2, 0, 1, 1, false⟩, ⟨2, 1, 0, 1, 1, false⟩, ⟨2, 2, 0, 0, 1, false⟩], [-1, -1, 5, -1, 3, -1], [[0, 5], [1, 3]], [], if b then [(2, 3), (4, 5)] else [], [], []⟩
def nilG : Gr := ⟨0, [], [], [], [], [], [], []⟩
set_option maxRecDepth 100000 in
set_option maxHeartbeats 4000000 in
theorem si_loop (h218 : F 218 = some A_xlaw12_loop) (b : Bool) : pureS F 218 [.b b] = some (.agg (grC (loopG b))) := by
  refine pure_of h218 ?_
  have r5 : ∀ x : AV, List.replicate 5 x = [x, x, x, x, x] := fun _ => rfl
  have r6 : ∀ x : AV, List.replicate 6 x = [x, x, x, x, x, x] := fun _ => rfl
  have r4 : ∀ x : AV, List.replicate 4 x = [x, x, x, x] := fun _ => rfl
  have r7 : ∀ x : AV, List.replicate 7 x = [x, x, x, x, x, x, x] := fun _ => rfl
  have s8 : ∀ a1 a2 a3 a4 a5 a6 a7 a8 c1 c2 c3 c4 c5 c6 c7 c8 : AV, splice [a1, a2, a3, a4, a5, a6, a7, a8] 0 [c1, c2, c3, c4, c5, c6, c7, c8] = [c1, c2, c3, c4, c5, c6, c7, c8] := fun _ _ _ _ _ _ _ _ _ _ _ _ _ _ _ _ => rfl
  have p8 : ∀ a1 a2 a3 a4 a5 a6 a7 a8 : AV, part [a1, a2, a3, a4, a5, a6, a7, a8] 0 (some 8) = some (.agg [a1, a2, a3, a4, a5, a6, a7, a8]) := fun _ _ _ _ _ _ _ _ => rfl
  have s4a : ∀ a b c d x y : AV, splice [a, b, c, d] 0 [x, y] = [x, y, c, d] := fun _ _ _ _ _ _ => rfl
  have s4b : ∀ a b c d x y : AV, splice [a, b, c, d] 2 [x, y] = [a, b, x, y] := fun _ _ _ _ _ _ => rfl
  cases b
  · simp (disch := omega) only [A_xlaw12_loop, wp, Nat.reduceAdd, Nat.reduceMul, Nat.reduceSub, gl, res_cell, resC, r5, r6, r4, r7, s8, p8, s4a, s4b, splice_s, splice_6, List.length_set]
    refine frz_d_agg ?_
    show frzL _ (7 + 1) _ = _
    simp only [frzL, frz]
    rfl
  · simp (disch := omega) only [A_xlaw12_loop, wp, Nat.reduceAdd, Nat.reduceMul, Nat.reduceSub, gl, res_cell, resC, r5, r6, r4, r7, s8, p8, s4a, s4b, splice_s, splice_6, List.length_set]
    refine frz_d_agg ?_
    show frzL _ (7 + 1) _ = _
    simp only [frzL, frz]
    rfl
theorem loop_few (b : Bool) : Few (loopG b) := by
  refine ⟨by simp [loopG], by simp [loopG], ?_⟩
  intro c hc
  simp only [loopG, List.mem_cons, List.not_mem_nil, or_false] at hc
  rcases hc with rfl | rfl <;> decide
theorem nil_few : Few nilG := ⟨by simp [nilG], by simp [nilG], fun c hc => by cases hc⟩
theorem loop_len (b : Bool) : LenG (loopG b) := by
  refine ⟨by cases b <;> decide, by cases b <;> decide, fun k => ?_, by cases b <;> decide, by cases b <;> decide, by cases b <;> decide, by cases b <;> decide⟩
  match k with
  | 0 => cases b <;> decide
  | 1 => cases b <;> decide
  | k + 2 => show (List.getD [] k []).length ≤ 1000; simp
theorem nil_len : LenG nilG := ⟨by decide, by decide, fun k => by simp [nilG], by decide, by decide, by decide, by decide⟩
theorem loop_1 : ordB (loopG true) = false := by decide +kernel
theorem loop_2 : ordB (loopG false) = true := by decide +kernel
theorem loop_3 : conB (loopG false) = true := by decide +kernel
theorem loop_4 : cohB (loopG true) = true := by decide +kernel
theorem loop_5 : atB (loopG true) = true := by decide +kernel
theorem nil_1 : conB nilG = false := by decide +kernel
set_option maxRecDepth 100000 in
set_option maxHeartbeats 4000000 in
theorem si_awake (h163 : F 163 = some A_xlaw12_awake) (h218 : F 218 = some A_xlaw12_loop) (S : ImmF F) : pureS F 163 [] = some (.b true) := by
  refine pure_of h163 ?_
  have a0 := si_loop h218 true
  have a1 := si_loop h218 false
  have b1 := si_Ord S (loop_few true) (loop_len true)
  have b2 := si_Ord S (loop_few false) (loop_len false)
  have b3 := si_con S (loop_few false) (loop_len false)
  have b4 := si_Coh S (loop_few true) (loop_len true)
  have b5 := si_At S (loop_few true) (loop_len true)
  have b6 := si_con S nil_few nil_len
  rw [loop_1] at b1
  rw [loop_2] at b2
  rw [loop_3] at b3
  rw [loop_4] at b4
  rw [loop_5] at b5
  rw [nil_1] at b6
  have fz : ∀ hp : Nat → Option Blk, frz hp depth (.agg (AV.i .i64 0 :: List.replicate 7 (AV.sl [] 0 .rig))) = some (.agg (grC nilG)) := fun hp => by
    refine frz_d_agg ?_
    show frzL hp (7 + 1) [.i .i64 0, .sl [] 0 .rig, .sl [] 0 .rig, .sl [] 0 .rig, .sl [] 0 .rig, .sl [] 0 .rig, .sl [] 0 .rig, .sl [] 0 .rig] = _
    simp only [frzL, frz]
    rfl
  have vz : ∀ hp : Nat → Option Blk, vis hp depth (.agg (AV.i .i64 0 :: List.replicate 7 (AV.sl [] 0 .rig))) = [] := fun hp => rfl
  simp (disch := omega) only [A_xlaw12_awake, wp, Nat.reduceAdd, Nat.reduceMul, Nat.reduceSub, gl, a0, a1, b1, b2, b3, b4, b5, b6, fz, vz]
end Go.Ab
end
section
set_option linter.unusedVariables false
set_option linter.unusedSimpArgs false
namespace Go.Ab
inductive ET where
  | leaf
  | node (v : Option AV) (l r : ET)
noncomputable def ET.get (t : ET) : Nat → Option AV :=
  ET.rec (motive := fun _ => Nat → Option AV) (fun _ => none) (fun v _ _ gl gr n => Nat.rec (motive := fun _ => Option AV) v (fun m _ => Bool.rec (motive := fun _ => Option AV) (gr (Nat.div m 2)) (gl (Nat.div m 2)) (Nat.beq (Nat.mod m 2) 0)) n) t
theorem ET.get_succ (v l r) (m : Nat) : (ET.node v l r).get (m + 1) = if m % 2 = 0 then l.get (m / 2) else r.get (m / 2) := by
  show Bool.rec (motive := fun _ => Option AV) (r.get (m / 2)) (l.get (m / 2)) (Nat.beq (m % 2) 0) = _
  cases h : Nat.beq (m % 2) 0 with
  | true => rw [if_pos (Nat.eq_of_beq_eq_true h)]
  | false => rw [if_neg (Nat.ne_of_beq_eq_false h)]
section
variable {α : Type}
noncomputable def ET.putK (v : AV) (fuel : Nat) : ET → Nat → (ET → α) → α :=
  Nat.rec (motive := fun _ => ET → Nat → (ET → α) → α) (fun t _ k => k t)
    (fun _ ih t n k => ET.rec (motive := fun _ => α)
      (Nat.rec (motive := fun _ => α) (k (.node (some v) .leaf .leaf)) (fun m _ => Bool.rec (motive := fun _ => α) (ih .leaf (Nat.div m 2) fun r' => k (.node none .leaf r')) (ih .leaf (Nat.div m 2) fun l' => k (.node none l' .leaf)) (Nat.beq (Nat.mod m 2) 0)) n)
      (fun w l r _ _ => Nat.rec (motive := fun _ => α) (k (.node (some v) l r)) (fun m _ => Bool.rec (motive := fun _ => α) (ih r (Nat.div m 2) fun r' => k (.node w l r')) (ih l (Nat.div m 2) fun l' => k (.node w l' r)) (Nat.beq (Nat.mod m 2) 0)) n) t) fuel
theorem ET.putK_ok (v : AV) : ∀ (fuel : Nat) (t : ET) (n : Nat) (k : ET → α), n < fuel → ∃ t', ET.putK v fuel t n k = k t' ∧ ∀ j, t'.get j = if j = n then some v else t.get j
  | 0, _, _, _, h => absurd h (Nat.not_lt_zero _)
  | f + 1, t, 0, k, _ => by
    cases t with
    | leaf =>
      refine ⟨.node (some v) .leaf .leaf, rfl, fun j => ?_⟩
      cases j with
      | zero => rfl
      | succ j => rw [ET.get_succ, if_neg (Nat.succ_ne_zero j)]; split <;> rfl
    | node w l r =>
      refine ⟨.node (some v) l r, rfl, fun j => ?_⟩
      cases j with
      | zero => rfl
      | succ j => rw [ET.get_succ, if_neg (Nat.succ_ne_zero j), ET.get_succ]
  | f + 1, t, m + 1, k, h => by
    have hd : m / 2 < f := by omega
    cases t with
    | leaf =>
      cases hb : Nat.beq (m % 2) 0 with
      | true =>
        have hm := Nat.eq_of_beq_eq_true hb
        obtain ⟨t', h1, h2⟩ := ET.putK_ok v f .leaf (m / 2) (fun l' => k (.node none l' .leaf)) hd
        refine ⟨.node none t' .leaf, ?_, fun j => ?_⟩
        · show Bool.rec (motive := fun _ => α) _ (ET.putK v f .leaf (m / 2) fun l' => k (.node none l' .leaf)) (Nat.beq (m % 2) 0) = _
          rw [hb]; exact h1
        · cases j with
          | zero => rw [if_neg (by omega)]; rfl
          | succ j =>
            rw [ET.get_succ]
            by_cases hj : j % 2 = 0
            · rw [if_pos hj, h2]
              by_cases e : j / 2 = m / 2
              · rw [if_pos e, if_pos (by omega)]
              · rw [if_neg e, if_neg (by omega)]; rfl
            · rw [if_neg hj, if_neg (by omega)]; rfl
      | false =>
        have hm := Nat.ne_of_beq_eq_false hb
        obtain ⟨t', h1, h2⟩ := ET.putK_ok v f .leaf (m / 2) (fun r' => k (.node none .leaf r')) hd
        refine ⟨.node none .leaf t', ?_, fun j => ?_⟩
        · show Bool.rec (motive := fun _ => α) (ET.putK v f .leaf (m / 2) fun r' => k (.node none .leaf r')) _ (Nat.beq (m % 2) 0) = _
          rw [hb]; exact h1
        · cases j with
          | zero => rw [if_neg (by omega)]; rfl
          | succ j =>
            rw [ET.get_succ]
            by_cases hj : j % 2 = 0
            · rw [if_pos hj, if_neg (by omega)]; rfl
            · rw [if_neg hj, h2]
              by_cases e : j / 2 = m / 2
              · rw [if_pos e, if_pos (by omega)]
              · rw [if_neg e, if_neg (by omega)]; rfl
    | node w l r =>
      cases hb : Nat.beq (m % 2) 0 with
      | true =>
        have hm := Nat.eq_of_beq_eq_true hb
        obtain ⟨t', h1, h2⟩ := ET.putK_ok v f l (m / 2) (fun l' => k (.node w l' r)) hd
        refine ⟨.node w t' r, ?_, fun j => ?_⟩
        · show Bool.rec (motive := fun _ => α) _ (ET.putK v f l (m / 2) fun l' => k (.node w l' r)) (Nat.beq (m % 2) 0) = _
          rw [hb]; exact h1
        · cases j with
          | zero => rw [if_neg (by omega)]; rfl
          | succ j =>
            rw [ET.get_succ, ET.get_succ]
            by_cases hj : j % 2 = 0
            · rw [if_pos hj, if_pos hj, h2]
              by_cases e : j / 2 = m / 2
              · rw [if_pos e, if_pos (by omega)]
              · rw [if_neg e, if_neg (by omega)]
            · rw [if_neg hj, if_neg hj, if_neg (by omega)]
      | false =>
        have hm := Nat.ne_of_beq_eq_false hb
        obtain ⟨t', h1, h2⟩ := ET.putK_ok v f r (m / 2) (fun r' => k (.node w l r')) hd
        refine ⟨.node w l t', ?_, fun j => ?_⟩
        · show Bool.rec (motive := fun _ => α) (ET.putK v f r (m / 2) fun r' => k (.node w l r')) _ (Nat.beq (m % 2) 0) = _
          rw [hb]; exact h1
        · cases j with
          | zero => rw [if_neg (by omega)]; rfl
          | succ j =>
            rw [ET.get_succ, ET.get_succ]
            by_cases hj : j % 2 = 0
            · rw [if_pos hj, if_pos hj, if_neg (by omega)]
            · rw [if_neg hj, if_neg hj, h2]
              by_cases e : j / 2 = m / 2
              · rw [if_pos e, if_pos (by omega)]
              · rw [if_neg e, if_neg (by omega)]
noncomputable def frcN (n : Nat) (k : Nat → α) : α := Nat.rec (motive := fun _ => α) (k 0) (fun m _ => k (Nat.add m 1)) n
theorem frcN_ok (n : Nat) (k : Nat → α) : frcN n k = k n := by cases n <;> rfl
noncomputable def frcI (n : Int) (k : Int → α) : α := Int.rec (motive := fun _ => α) (fun m => frcN m fun m => k (.ofNat m)) (fun m => frcN m fun m => k (.negSucc m)) n
theorem frcI_ok (n : Int) (k : Int → α) : frcI n k = k n := by
  cases n with
  | ofNat m => exact frcN_ok m fun m => k (.ofNat m)
  | negSucc m => exact frcN_ok m fun m => k (.negSucc m)
noncomputable def frcB (x : Bool) (k : Bool → α) : α := Bool.rec (motive := fun _ => α) (k false) (k true) x
theorem frcB_ok (x : Bool) (k : Bool → α) : frcB x k = k x := by cases x <;> rfl
noncomputable def frc1 (v : AV) (k : AV → α) : α := match v with
  | .i s n => frcI n fun n => k (.i s n)
  | .b x => frcB x fun x => k (.b x)
  | v => k v
theorem frc1_ok (v : AV) (k : AV → α) : frc1 v k = k v := by
  cases v with
  | i s n => exact frcI_ok n fun n => k (.i s n)
  | b x => exact frcB_ok x fun x => k (.b x)
  | _ => rfl
noncomputable def frcL (cs : List AV) : (List AV → α) → α := List.rec (motive := fun _ => (List AV → α) → α) (fun k => k []) (fun c _ ih k => frc1 c fun c => ih fun cs => k (c :: cs)) cs
theorem frcL_ok : ∀ (cs : List AV) (k : List AV → α), frcL cs k = k cs
  | [], _ => rfl
  | c :: cs, k => by
    show frc1 c (fun c => frcL cs fun cs => k (c :: cs)) = _
    rw [frc1_ok, frcL_ok cs]
noncomputable def frcV (v : AV) (k : AV → α) : α := match v with
  | .i s n => frcI n fun n => k (.i s n)
  | .b x => frcB x fun x => k (.b x)
  | .sl cs n t => frcL cs fun cs => frcN n fun n => k (.sl cs n t)
  | .agg cs => frcL cs fun cs => k (.agg cs)
  | .ptr cs => frcL cs fun cs => k (.ptr cs)
  | .mp a o => frcN a fun a => frcN o fun o => k (.mp a o)
  | .ms a o n => frcN a fun a => frcN o fun o => frcN n fun n => k (.ms a o n)
  | v => k v
theorem frcV_ok (v : AV) (k : AV → α) : frcV v k = k v := by
  cases v with
  | i s n => exact frcI_ok n fun n => k (.i s n)
  | b x => exact frcB_ok x fun x => k (.b x)
  | sl cs n t =>
    show frcL cs (fun cs => frcN n fun n => k (.sl cs n t)) = _
    rw [frcL_ok, frcN_ok]
  | agg cs => exact frcL_ok cs fun cs => k (.agg cs)
  | ptr cs => exact frcL_ok cs fun cs => k (.ptr cs)
  | mp a o =>
    show frcN a (fun a => frcN o fun o => k (.mp a o)) = _
    rw [frcN_ok, frcN_ok]
  | ms a o n =>
    show frcN a (fun a => frcN o fun o => frcN n fun n => k (.ms a o n)) = _
    rw [frcN_ok, frcN_ok, frcN_ok]
  | _ => rfl
end
noncomputable def mapO (f : AV → Option AV) (cs : List AV) : Option (List AV) := List.rec (motive := fun _ => Option (List AV)) (some []) (fun c _ ih => match f c with
  | some c => (match ih with | some cs => some (c :: cs) | none => none)
  | none => none) cs
noncomputable def frzK (hp : Nat → Option Blk) (k : Nat) : AV → Option AV := Nat.rec (motive := fun _ => AV → Option AV) (fun _ => none) (fun _ ih v => match v with
  | .agg cs => (match mapO ih cs with | some cs => some (.agg cs) | none => none)
  | .tup cs => (match mapO ih cs with | some cs => some (.tup cs) | none => none)
  | .sl cs n _ => some (.sl cs n .non)
  | .mp id off => (match hp id with
    | some (.cells cs _) => (match mapO ih (cs.drop off) with | some cs => some (.ptr cs) | none => none)
    | _ => none)
  | .ms id off n => (match hp id with
    | some (.cells cs _) => (match mapO ih (cs.drop off) with | some cs => some (.sl cs n .non) | none => none)
    | _ => none)
  | .fn f a b => (match mapO ih a with
    | some a => (match mapO ih b with | some b => some (.fn f a b) | none => none)
    | none => none)
  | .ifc t v => (match ih v with | some v => some (.ifc t v) | none => none)
  | .mm _ => none
  | v => some v) k
noncomputable def frzLK (hp : Nat → Option Blk) (k : Nat) (cs : List AV) : Option (List AV) := mapO (frzK hp k) cs
theorem mapO_cons (f c cs) : mapO f (c :: cs) = (match f c with
  | some c => (match mapO f cs with | some cs => some (c :: cs) | none => none)
  | none => none) := rfl
theorem mapO_frz (hp : Nat → Option Blk) (k : Nat) (h : ∀ v, frzK hp k v = frz hp k v) : ∀ cs, mapO (frzK hp k) cs = frzL hp k cs
  | [] => by simp only [frzL]; rfl
  | c :: cs => by
    rw [mapO_cons, mapO_frz hp k h cs, h c]
    simp only [frzL]
    cases frz hp k c <;> cases frzL hp k cs <;> rfl
theorem frzK_ok (hp : Nat → Option Blk) : ∀ (k : Nat) (v : AV), frzK hp k v = frz hp k v
  | 0, v => by simp only [frz]; rfl
  | k + 1, v => by
    have hl := mapO_frz hp k (frzK_ok hp k)
    have e : frzK hp (k + 1) v = (match v with
      | .agg cs => (match mapO (frzK hp k) cs with | some cs => some (.agg cs) | none => none)
      | .tup cs => (match mapO (frzK hp k) cs with | some cs => some (.tup cs) | none => none)
      | .sl cs n _ => some (.sl cs n .non)
      | .mp id off => (match hp id with
        | some (.cells cs _) => (match mapO (frzK hp k) (cs.drop off) with | some cs => some (.ptr cs) | none => none)
        | _ => none)
      | .ms id off n => (match hp id with
        | some (.cells cs _) => (match mapO (frzK hp k) (cs.drop off) with | some cs => some (.sl cs n .non) | none => none)
        | _ => none)
      | .fn f a b => (match mapO (frzK hp k) a with
        | some a => (match mapO (frzK hp k) b with | some b => some (.fn f a b) | none => none)
        | none => none)
      | .ifc t v => (match frzK hp k v with | some v => some (.ifc t v) | none => none)
      | .mm _ => none
      | v => some v) := rfl
    rw [e]
    simp only [hl, frzK_ok hp k]
    cases v with
    | agg cs => simp only [frz]; cases frzL hp k cs <;> rfl
    | tup cs => simp only [frz]; cases frzL hp k cs <;> rfl
    | mp id off =>
      simp only [frz]
      cases hp id with
      | none => rfl
      | some b =>
        cases b with
        | cells cs ro => simp only; cases frzL hp k (cs.drop off) <;> rfl
        | _ => rfl
    | ms id off n =>
      simp only [frz]
      cases hp id with
      | none => rfl
      | some b =>
        cases b with
        | cells cs ro => simp only; cases frzL hp k (cs.drop off) <;> rfl
        | _ => rfl
    | fn f a b =>
      simp only [frz]
      cases frzL hp k a <;> cases frzL hp k b <;> rfl
    | ifc t v => simp only [frz]; cases frz hp k v <;> rfl
    | _ => simp only [frz]
theorem frzLK_ok (hp : Nat → Option Blk) (k : Nat) (cs : List AV) : frzLK hp k cs = frzL hp k cs := mapO_frz hp k (frzK_ok hp k) cs
noncomputable def kBoxI (v : AV) (g : G) : Option (AV × G) :=
  if (cellsOf v).all one then vMapL .ptr g (frzLK (fun _ => none) depth (cellsOf v)) else none
noncomputable def kBsl (id : Nat) (imm : Bool) (n : Nat) (cs : Option (List AV)) (g : G) : Option (AV × G) := match cs with
  | none => none
  | some cs =>
    if imm then vMapL (fun cs => .sl cs n .rig) g (frzLK (fun _ => none) depth cs)
    else some (.ms id 0 n, ⟨upd g.hp id (some (.cells cs false)), g.nx⟩)
noncomputable def kSrc (al : Nat → Bool) (esz : Nat) (y : AV) (g : G) : Option (List AV × Nat) := match y with
  | .sl ds m _ => some (ds, m)
  | .ms b off m => match rd g al b with
    | some (.cells ds _) => match frzLK (fun _ => none) depth ((ds.drop off).take (m * esz)) with
      | some ds => some (ds, m)
      | none => none
    | _ => none
  | _ => none
noncomputable def kApp (al : Nat → Bool) (id esz bytes : Nat) (x y : AV) (g : G) : Option (AV × G) := match x with
  | .sl cs n t => match kSrc al esz y g with
    | none => none
    | some (ds, m) =>
      if (n + m) * bytes ≤ 2 ^ 46 ∧ n + m ≤ 2 ^ 62 ∧ cs.length = n * esz ∧ ds.length = m * esz then
        match t with
        | .non => none
        | .rig => if m = 0 then some (.sl cs n .rig, g) else some (.sl (cs ++ ds) (n + m) (.own id esz), ⟨upd g.hp id (some (.tok true)), g.nx⟩)
        | .own tk e => match rd g al tk with
          | some (.tok true) => if e = esz then some (.sl (cs ++ ds) (n + m) (.own id esz), ⟨upd (upd g.hp tk (some (.tok false))) id (some (.tok true)), g.nx⟩) else none
          | _ => none
      else none
  | _ => none
theorem kSrc_ok (al esz y g) : kSrc al esz y g = vSrc al esz y g := by unfold kSrc vSrc; simp only [frzLK_ok]; rfl
theorem kApp_ok (al id esz bytes x y g) : kApp al id esz bytes x y g = vApp al id esz bytes x y g := by
  unfold kApp vApp
  simp only [kSrc_ok]
  rfl
theorem kBsl_ok (id imm n cs g) : kBsl id imm n cs g = vBsl id imm n cs g := by unfold kBsl vBsl; simp only [frzLK_ok]; first | done | rfl
theorem kBoxI_ok (v g) : kBoxI v g = vBoxI v g := by unfold kBoxI vBoxI; simp only [frzLK_ok]; first | done | rfl
noncomputable def kCall (call : CS) (al : Nat → Bool) (id : Nat) (m : Mode) (f : AV) (args : List AV) (g : G) : Option (AV × G) := match f with
  | .fn fid fst caps => match m with
    | .raw => call fid (fst ++ args ++ caps) g
    | .pure => match frzLK (rd g al) depth (fst ++ args ++ caps) with
      | none => none
      | some bs => match call fid bs ⟨fun _ => none, 0⟩ with
        | none => none
        | some (v, g') => match frzK g'.hp depth v with
          | none => none
          | some v => if flat v || ((fst ++ args ++ caps).flatMap (vis (rd g al) depth)).isEmpty then some (v, g) else none
    | .lock => match frzLK (rd g al) depth (fst ++ args ++ caps) with
      | none => none
      | some bs => match call fid bs ⟨fun _ => none, 0⟩ with
        | none => none
        | some (v, g') => match frzK g'.hp depth v with
          | none => none
          | some v => some (v, ⟨lock g.hp ((fst ++ args ++ caps).flatMap (vis (rd g al) depth)), g.nx⟩)
    | .thaw => match frzLK (rd g al) depth (fst ++ args ++ caps) with
      | none => none
      | some bs => match call fid bs ⟨fun _ => none, 0⟩ with
        | some (.mp b 0, g') => match g'.hp b with
          | some (.cells cs false) => match frzLK g'.hp depth cs with
            | some cs' =>
              if ((fst ++ args ++ caps).flatMap (vis (rd g al) depth)).isEmpty && !(cs.flatMap (vis g'.hp depth)).contains b then some (.mp id 0, ⟨upd g.hp id (some (.cells cs' false)), g.nx⟩) else none
            | none => none
          | _ => none
        | _ => none
  | _ => none
theorem kCall_ok (call al id m f args g) : kCall call al id m f args g = vCall call al id m f args g := by
  unfold kCall vCall
  simp only [frzLK_ok, frzK_ok]
  rfl
abbrev Orc := Nat → List AV → Option AV
noncomputable def kev (b : Env) (t : ET) : Env := fun n => match t.get n with | some v => v | none => b n
noncomputable def putO {α : Type} (d : Option Nat) (v : AV) (t : ET) (k : ET → α) : α := match d with
  | some d => ET.putK v (d + 1) t d k
  | none => k t
theorem putO_ok {α : Type} (b : Env) (d : Option Nat) (v : AV) (t : ET) (k : ET → α) : ∃ t', putO d v t k = k t' ∧ kev b t' = put (kev b t) d v := by
  cases d with
  | none => exact ⟨t, rfl, rfl⟩
  | some d =>
    obtain ⟨t', h1, h2⟩ := ET.putK_ok v (d + 1) t d k (by omega)
    refine ⟨t', h1, ?_⟩
    funext j
    simp only [kev, put, upd, h2]
    by_cases e : j = d
    · simp only [if_pos e]
    · simp only [if_neg e]
noncomputable def ltI (a b : Int) : Bool := Int.rec (motive := fun _ => Bool) (fun m => Int.rec (motive := fun _ => Bool) (fun n => Nat.ble (Nat.add m 1) n) (fun _ => false) b) (fun m => Int.rec (motive := fun _ => Bool) (fun _ => true) (fun n => Nat.ble (Nat.add n 1) m) b) a
theorem ble_dec (m n : Nat) : Nat.ble m n = decide (m ≤ n) := by
  cases h : Nat.ble m n with
  | true => exact (decide_eq_true (Nat.le_of_ble_eq_true h)).symm
  | false => exact (decide_eq_false (fun hh => by rw [Nat.ble_eq_true_of_le hh] at h; cases h)).symm
theorem ltI_ok (a b : Int) : ltI a b = decide (a < b) := by
  cases a with
  | ofNat m =>
    cases b with
    | ofNat n =>
      show Nat.ble (m + 1) n = _
      rw [ble_dec, decide_eq_decide]
      show m + 1 ≤ n ↔ (m : Int) < (n : Int)
      omega
    | negSucc n =>
      show false = _
      refine (decide_eq_false ?_).symm
      show ¬ (m : Int) < Int.negSucc n
      omega
  | negSucc m =>
    cases b with
    | ofNat n =>
      show true = _
      refine (decide_eq_true ?_).symm
      show Int.negSucc m < (n : Int)
      omega
    | negSucc n =>
      show Nat.ble (n + 1) m = _
      rw [ble_dec, decide_eq_decide]
      omega
noncomputable def eqI (a b : Int) : Bool := Int.rec (motive := fun _ => Bool) (fun m => Int.rec (motive := fun _ => Bool) (fun n => Nat.beq m n) (fun _ => false) b) (fun m => Int.rec (motive := fun _ => Bool) (fun _ => false) (fun n => Nat.beq m n) b) a
theorem beq_dec (m n : Nat) : Nat.beq m n = decide (m = n) := by
  cases h : Nat.beq m n with
  | true => exact (decide_eq_true (Nat.eq_of_beq_eq_true h)).symm
  | false => exact (decide_eq_false (Nat.ne_of_beq_eq_false h)).symm
theorem eqI_ok (a b : Int) : eqI a b = (a == b) := by
  have e : (a == b) = decide (a = b) := by rw [Bool.eq_iff_iff]; simp
  rw [e]
  cases a with
  | ofNat m =>
    cases b with
    | ofNat n =>
      show Nat.beq m n = _
      rw [beq_dec, decide_eq_decide]
      show m = n ↔ (m : Int) = (n : Int)
      omega
    | negSucc n => exact (decide_eq_false (fun h => by cases h)).symm
  | negSucc m =>
    cases b with
    | ofNat n => exact (decide_eq_false (fun h => by cases h)).symm
    | negSucc n =>
      show Nat.beq m n = _
      rw [beq_dec, decide_eq_decide]
      omega
noncomputable def wrI (n : Int) : Int := Int.rec (motive := fun _ => Int) (fun m => Bool.rec (motive := fun _ => Int) (IntKind.i64.wrap (.ofNat m)) (.ofNat m) (Nat.ble m 9223372036854775807)) (fun m => Bool.rec (motive := fun _ => Int) (IntKind.i64.wrap (.negSucc m)) (.negSucc m) (Nat.ble m 9223372036854775807)) n
theorem wrI_in {x : Int} (h : -9223372036854775808 ≤ x) (h2 : x ≤ 9223372036854775807) : IntKind.i64.wrap x = x := by
  simp [IntKind.wrap, IntKind.bits, IntKind.signed]
  omega
theorem wrI_ok (n : Int) : wrI n = IntKind.i64.wrap n := by
  cases n with
  | ofNat m =>
    show Bool.rec (motive := fun _ => Int) (IntKind.i64.wrap (.ofNat m)) (.ofNat m) (Nat.ble m 9223372036854775807) = _
    rw [ble_dec]
    by_cases h : m ≤ 9223372036854775807
    · rw [decide_eq_true h]
      exact (wrI_in (x := (m : Int)) (by omega) (by omega)).symm
    · rw [decide_eq_false h]
  | negSucc m =>
    show Bool.rec (motive := fun _ => Int) (IntKind.i64.wrap (.negSucc m)) (.negSucc m) (Nat.ble m 9223372036854775807) = _
    rw [ble_dec]
    by_cases h : m ≤ 9223372036854775807
    · rw [decide_eq_true h]
      exact (wrI_in (x := Int.negSucc m) (by omega) (by omega)).symm
    · rw [decide_eq_false h]
noncomputable def addI (a b : Int) : Int := Int.rec (motive := fun _ => Int) (fun m => Int.rec (motive := fun _ => Int) (fun n => .ofNat (Nat.add m n)) (fun n => Int.add (.ofNat m) (.negSucc n)) b) (fun m => Int.add (.negSucc m) b) a
theorem addI_ok (a b : Int) : addI a b = a + b := by cases a <;> cases b <;> rfl
noncomputable def kII (op : BinOp) : Int → Int → Option AV := BinOp.casesOn (motive := fun _ => Int → Int → Option AV) op
  (fun a b => some (.i .i64 (wrI (addI a b)))) (fun a b => some (.i .i64 (wrI (Int.sub a b)))) (ibin .mul .i64) (ibin .quo .i64) (ibin .rem .i64) (ibin .and .i64) (ibin .or .i64) (ibin .xor .i64)
  (ishift .shl .i64) (ishift .shr .i64) (ibin .andNot .i64) (fun a b => some (.b (eqI a b))) (fun a b => some (.b (!eqI a b))) (fun a b => some (.b (ltI a b))) (fun a b => some (.b (!ltI b a))) (fun a b => some (.b (ltI b a))) (fun a b => some (.b (!ltI a b)))
theorem kII_ok (op : BinOp) (a b : Int) : kII op a b = abin op (.i .i64 a) (.i .i64 b) := by
  cases op
  · show some (AV.i .i64 (wrI (addI a b))) = _
    rw [wrI_ok, addI_ok]; simp [abin, ibin]
  · show some (AV.i .i64 (wrI (a - b))) = _
    rw [wrI_ok]; simp [abin, ibin]
  · show ibin .mul .i64 a b = _; simp [abin]
  · show ibin .quo .i64 a b = _; simp [abin]
  · show ibin .rem .i64 a b = _; simp [abin]
  · show ibin .and .i64 a b = _; simp [abin]
  · show ibin .or .i64 a b = _; simp [abin]
  · show ibin .xor .i64 a b = _; simp [abin]
  · show ishift .shl .i64 a b = _; simp [abin]
  · show ishift .shr .i64 a b = _; simp [abin]
  · show ibin .andNot .i64 a b = _; simp [abin]
  · show some (AV.b (eqI a b)) = _
    rw [eqI_ok]; simp [abin, ibin]
  · show some (AV.b (!eqI a b)) = _
    rw [eqI_ok]; simp only [abin, ibin, if_true]; rfl
  · show some (AV.b (ltI a b)) = _
    rw [ltI_ok]; simp [abin, ibin]
  · show some (AV.b (!ltI b a)) = _
    rw [ltI_ok]; simp [abin, ibin]
    rw [← decide_not, decide_eq_decide]; omega
  · show some (AV.b (ltI b a)) = _
    rw [ltI_ok]; simp [abin, ibin]
  · show some (AV.b (!ltI a b)) = _
    rw [ltI_ok]; simp [abin, ibin]
    rw [← decide_not, decide_eq_decide]; omega
noncomputable def kBin (op : BinOp) (x y : AV) : Option AV := match x with
  | .i k a => (match k with
    | .i64 => (match y with
      | .i k' b => (match k' with
        | .i64 => kII op a b
        | k' => abin op (.i .i64 a) (.i k' b))
      | y => abin op (.i .i64 a) y)
    | k => abin op (.i k a) y)
  | x => abin op x y
theorem kBin_ok (op : BinOp) (x y : AV) : kBin op x y = abin op x y := by
  cases x with
  | i k a =>
    cases k <;> first
      | rfl
      | (cases y with
        | i k' b => cases k' <;> first | rfl | exact kII_ok op a b
        | _ => rfl)
  | _ => rfl
noncomputable def frcR (r : Option (AV × G)) : Option (AV × G) := match r with
  | some (v, g) => frcV v fun v => some (v, g)
  | none => none
theorem frcR_ok (r : Option (AV × G)) : frcR r = r := by
  cases r with
  | none => rfl
  | some p =>
    obtain ⟨v, g⟩ := p
    show frcV v (fun v => some (v, g)) = _
    rw [frcV_ok]
abbrev KO := Orc → CS → (Nat → Bool) → Nat → Nat → Env → G → Option (AV × G)
noncomputable def ko_mv (x : Opd) : KO := fun _ _ _ _ _ e g => some (x.ev e, g)
noncomputable def ko_pick (c a b : Opd) : KO := fun _ _ _ _ _ e g => vPick (c.ev e) (a.ev e) (b.ev e) g
noncomputable def ko_new (zero : List AV) : KO := fun _ _ _ _ id _ g => some (.mp id 0, ⟨upd g.hp id (some (.cells zero false)), g.nx⟩)
noncomputable def ko_box (x : Opd) : KO := fun _ _ _ _ id e g => vBox id (x.ev e) g
noncomputable def ko_boxI (x : Opd) : KO := fun _ _ _ _ _ e g => kBoxI (x.ev e) g
noncomputable def ko_build (zero : List AV) (parts : List (Nat × Nat × Opd)) : KO := fun _ _ _ _ _ e g => frcR (vMapL .agg g (fill e zero parts))
noncomputable def ko_bsl (imm : Bool) (n : Nat) (zero : List AV) (parts : List (Nat × Nat × Opd)) : KO := fun _ _ _ _ id e g => frcR (kBsl id imm n (fill e zero parts) g)
noncomputable def ko_ld (agg : Option Nat) (x : Opd) : KO := fun _ _ al _ _ e g => vLd al agg (x.ev e) g
noncomputable def ko_st (n : Nat) (a x : Opd) : KO := fun _ _ al _ _ e g => vSt al n (a.ev e) (x.ev e) g
noncomputable def ko_stL (n : Nat) (a x : Opd) : KO := fun _ _ al lo _ e g => vSt (fun i => decide (lo ≤ i) && al i) n (a.ev e) (x.ev e) g
noncomputable def ko_nilck (x : Opd) : KO := fun _ _ _ _ _ e g => vNil (x.ev e) g
noncomputable def ko_bin (op : BinOp) (x y : Opd) : KO := fun _ _ _ _ _ e g => frcR (vMap g (kBin op (x.ev e) (y.ev e)))
noncomputable def ko_eqb (neg : Bool) (x y : Opd) : KO := fun _ _ _ _ _ e g => frcR (vMap g (negb neg (aeqb (x.ev e) (y.ev e))))
noncomputable def ko_eqn (neg : Bool) (x y : Opd) : KO := fun _ _ _ _ _ e g => frcR (vMap g (negb neg (aeqn (x.ev e) (y.ev e))))
noncomputable def ko_eqa (neg : Bool) (ks : List Nat) (x y : Opd) : KO := fun _ _ _ _ _ e g => frcR (vMap g (negb neg (aeqa ks (x.ev e) (y.ev e))))
noncomputable def ko_un (op : UnOp) (x : Opd) : KO := fun _ _ _ _ _ e g => frcR (vMap g (aun op (x.ev e)))
noncomputable def ko_conv (k : IntKind) (x : Opd) : KO := fun _ _ _ _ _ e g => frcR (vConv k (x.ev e) g)
noncomputable def ko_mkfn (f : Nat) (fst caps : List Opd) : KO := fun _ _ _ _ _ e g => some (.fn f (fst.map (·.ev e)) (caps.map (·.ev e)), g)
noncomputable def ko_mkmap : KO := fun _ _ _ _ id _ g => some (.mm id, ⟨upd g.hp id (some (.map [])), g.nx⟩)
noncomputable def ko_mput (m k v : Opd) : KO := fun _ _ al _ _ e g => vMput al (m.ev e) (k.ev e) (v.ev e) g
noncomputable def ko_mget (m k : Opd) : KO := fun _ _ al _ _ e g => vMget al (m.ev e) (k.ev e) g
noncomputable def ko_mksl (zero : List AV) (esz bytes : Nat) (len cap : Opd) : KO := fun _ _ _ _ id e g => frcR (vMksl id zero esz bytes (len.ev e) (cap.ev e) g)
noncomputable def ko_slice (esz : Nat) (x : Opd) (lo hi mx : Option Opd) : KO := fun _ _ _ _ _ e g => frcR (vSlice esz (x.ev e) (evo e lo) (evo e hi) (evo e mx) g)
noncomputable def ko_fa (off : Nat) (x : Opd) : KO := fun _ _ _ _ _ e g => vFa off (x.ev e) g
noncomputable def ko_fld (off : Nat) (agg : Option Nat) (x : Opd) : KO := fun _ _ _ _ _ e g => vFld off agg (x.ev e) g
noncomputable def ko_ia (esz : Nat) (x i : Opd) : KO := fun _ _ _ _ _ e g => vIa esz (x.ev e) (i.ev e) g
noncomputable def ko_iaa (len esz : Nat) (x i : Opd) : KO := fun _ _ _ _ _ e g => vIaa len esz (x.ev e) (i.ev e) g
noncomputable def ko_idx (len esz : Nat) (agg : Option Nat) (x i : Opd) : KO := fun _ _ _ _ _ e g => vIdx len esz agg (x.ev e) (i.ev e) g
noncomputable def ko_sidx (x i : Opd) : KO := fun _ _ _ _ _ e g => frcR (vSidx (x.ev e) (i.ev e) g)
noncomputable def ko_ext (i : Nat) (x : Opd) : KO := fun _ _ _ _ _ e g => vExt i (x.ev e) g
noncomputable def ko_len (x : Opd) : KO := fun _ _ _ _ _ e g => vLen (x.ev e) g
noncomputable def ko_slen (x : Opd) : KO := fun _ _ _ _ _ e g => frcR (vSlen (x.ev e) g)
noncomputable def ko_sslice (x : Opd) (lo hi : Option Opd) : KO := fun _ _ _ _ _ e g => frcR (vSslice (x.ev e) (evo e lo) (evo e hi) g)
noncomputable def ko_mx (x y : Opd) : KO := fun _ _ _ _ _ e g => frcR (vMx (x.ev e) (y.ev e) g)
noncomputable def ko_mn (x y : Opd) : KO := fun _ _ _ _ _ e g => frcR (vMn (x.ev e) (y.ev e) g)
noncomputable def ko_app (esz bytes : Nat) (x y : Opd) : KO := fun _ _ al _ id e g => frcR (kApp al id esz bytes (x.ev e) (y.ev e) g)
noncomputable def ko_pure (f : Opd) (args : List Opd) : KO := fun orc call al _ id e g => match f.ev e with
  | .fn fid fst caps => (match frzLK (rd g al) depth (fst ++ args.map (·.ev e) ++ caps) with
    | some bs => (match orc fid bs with
      | some v => frcV v fun v => if flat v || ((fst ++ args.map (·.ev e) ++ caps).flatMap (vis (rd g al) depth)).isEmpty then some (v, g) else none
      | none => frcR (kCall call al id .pure (f.ev e) (args.map (·.ev e)) g))
    | none => none)
  | _ => none
noncomputable def ko_call (m : Mode) (f : Opd) (args : List Opd) : KO := Mode.casesOn (motive := fun _ => KO) m (ko_pure f args)
  (fun _ call al _ id e g => frcR (kCall call al id .lock (f.ev e) (args.map (·.ev e)) g))
  (fun _ call al _ id e g => frcR (kCall call al id .thaw (f.ev e) (args.map (·.ev e)) g))
  (fun _ call al _ id e g => frcR (kCall call al id .raw (f.ev e) (args.map (·.ev e)) g))
section
variable (orc : Orc)
noncomputable def opK (call : CS) (al : Nat → Bool) (lo id : Nat) (op : AOp) (e : Env) (g : G) : Option (AV × G) :=
  AOp.casesOn (motive := fun _ => KO) op ko_mv ko_pick ko_new ko_box ko_boxI ko_build ko_bsl ko_ld ko_st ko_stL ko_nilck ko_bin ko_eqb ko_eqn ko_eqa ko_un ko_conv ko_mkfn ko_mkmap ko_mput ko_mget ko_mksl ko_slice ko_fa ko_fld ko_ia ko_iaa ko_idx ko_sidx ko_ext ko_len ko_slen ko_sslice ko_mx ko_mn ko_app ko_call orc call al lo id e g
noncomputable def regK (call : CS) (b : Env) (draw : Bool) (base : Nat) (ops : List AOper) : Nat → ET → G → Option (ET × G) :=
  List.rec (motive := fun _ => Nat → ET → G → Option (ET × G)) (fun _ t g => some (t, g)) (fun o _ ih j t g =>
    match wanted (kev b t) o.grd with
    | true => match opK orc call (allow draw base o.pre) base (base + j) o.op (kev b t) g with
      | some (v, g) => putO o.dst v t fun t => ih (j + 1) t g
      | none => none
    | false => putO o.dst .undef t fun t => ih (j + 1) t g) ops
noncomputable def iterK (f : ET → G → Option (Out × ET × G)) (k : Nat) : ET → G → Option (Out × ET × G) :=
  Nat.rec (motive := fun _ => ET → G → Option (Out × ET × G)) (fun _ _ => none) (fun _ ih t g => match f t g with
    | some (.nrm, t, g) => ih t g
    | r => r) k
noncomputable def codeK (call : CS) (b : Env) (k : Nat) (c : ACode) : ET → G → Option (Out × ET × G) :=
  ACode.rec (motive := fun _ => ET → G → Option (Out × ET × G))
    (fun t g => some (.nrm, t, g))
    (fun draw ops t g => frcN g.nx fun base => frcN (base + ops.length) fun nx => match regK orc call b draw base ops 0 t ⟨g.hp, nx⟩ with
      | some (t, g) => some (.nrm, t, g)
      | none => none)
    (fun _ _ fa fb t g => match fa t g with
      | some (.nrm, t, g) => fb t g
      | r => r)
    (fun c _ _ ft ff t g => match c.ev (kev b t) with
      | .b x => Bool.rec (motive := fun _ => Option (Out × ET × G)) (ff t g) (ft t g) x
      | _ => none)
    (fun id _ fc t g => match fc t g with
      | some (.ext n, t, g) => some (Bool.rec (motive := fun _ => Out) (.ext n) .nrm (Nat.beq n id), t, g)
      | r => r)
    (fun n _ fc t g => fc t ⟨lock g.hp (vis g.hp depth (kev b t n)), g.nx⟩)
    (fun n _ fc t g => match frzK g.hp depth (kev b t n) with
      | some v => ET.putK v (n + 1) t n fun t' => fc t' ⟨lock g.hp (vis g.hp depth (kev b t n)), g.nx⟩
      | none => none)
    (fun _ fc t g => fc t g)
    (fun t g => some (.nrm, t, g))
    (fun _ fc t g => iterK fc k t g)
    (fun id t g => some (.ext id, t, g))
    (fun t g => some (.ret, t, g)) c
variable (F : Funs)
noncomputable def callK (k : Nat) : CS :=
  Nat.rec (motive := fun _ => CS) (fun _ _ _ => none) (fun k ih f args g => match F f with
    | none => none
    | some fn => match codeK orc ih (argEnv args) k fn.body .leaf g with
      | some (.nrm, t, g) => (resE fn.res (kev (argEnv args) t) g).map (·, g)
      | some (.ret, t, g) => (resE fn.res (kev (argEnv args) t) g).map (·, g)
      | _ => none) k
end
def OrcOk (F : Funs) (orc : Orc) : Prop := ∀ f bs v, orc f bs = some v → pureS F f bs = some v
section
variable {F : Funs} {orc : Orc} (ho : OrcOk F orc)
include ho
theorem opK_ok {call : CS} (hc : CLe call (callS F)) {al lo id op e g r} (h : opK orc call al lo id op e g = some r) : opE (callS F) al lo id op e g = some r := by
  cases op with
  | boxI x =>
    have h : kBoxI (x.ev e) g = some r := h
    rw [kBoxI_ok] at h; exact h
  | build z ps =>
    have h : frcR (vMapL .agg g (fill e z ps)) = some r := h
    rw [frcR_ok] at h; exact h
  | bsl imm n z ps =>
    have h : frcR (kBsl id imm n (fill e z ps) g) = some r := h
    rw [frcR_ok, kBsl_ok] at h; exact h
  | bin o x y =>
    have h : frcR (vMap g (kBin o (x.ev e) (y.ev e))) = some r := h
    rw [frcR_ok, kBin_ok] at h; exact h
  | eqb neg x y =>
    have h : frcR (vMap g (negb neg (aeqb (x.ev e) (y.ev e)))) = some r := h
    rw [frcR_ok] at h; exact h
  | eqn neg x y =>
    have h : frcR (vMap g (negb neg (aeqn (x.ev e) (y.ev e)))) = some r := h
    rw [frcR_ok] at h; exact h
  | eqa neg ks x y =>
    have h : frcR (vMap g (negb neg (aeqa ks (x.ev e) (y.ev e)))) = some r := h
    rw [frcR_ok] at h; exact h
  | un o x =>
    have h : frcR (vMap g (aun o (x.ev e))) = some r := h
    rw [frcR_ok] at h; exact h
  | conv k x =>
    have h : frcR (vConv k (x.ev e) g) = some r := h
    rw [frcR_ok] at h; exact h
  | mksl z esz bytes len cap =>
    have h : frcR (vMksl id z esz bytes (len.ev e) (cap.ev e) g) = some r := h
    rw [frcR_ok] at h; exact h
  | slice esz x lo' hi mx =>
    have h : frcR (vSlice esz (x.ev e) (evo e lo') (evo e hi) (evo e mx) g) = some r := h
    rw [frcR_ok] at h; exact h
  | sidx x i =>
    have h : frcR (vSidx (x.ev e) (i.ev e) g) = some r := h
    rw [frcR_ok] at h; exact h
  | slen x =>
    have h : frcR (vSlen (x.ev e) g) = some r := h
    rw [frcR_ok] at h; exact h
  | sslice x lo' hi =>
    have h : frcR (vSslice (x.ev e) (evo e lo') (evo e hi) g) = some r := h
    rw [frcR_ok] at h; exact h
  | mx x y =>
    have h : frcR (vMx (x.ev e) (y.ev e) g) = some r := h
    rw [frcR_ok] at h; exact h
  | mn x y =>
    have h : frcR (vMn (x.ev e) (y.ev e) g) = some r := h
    rw [frcR_ok] at h; exact h
  | app esz bytes x y =>
    have h : frcR (kApp al id esz bytes (x.ev e) (y.ev e) g) = some r := h
    rw [frcR_ok, kApp_ok] at h; exact h
  | call m f args =>
    cases m with
    | raw =>
      have h : frcR (kCall call al id .raw (f.ev e) (args.map (·.ev e)) g) = some r := h
      rw [frcR_ok, kCall_ok] at h
      exact opE_mono (op := .call .raw f args) hc h
    | lock =>
      have h : frcR (kCall call al id .lock (f.ev e) (args.map (·.ev e)) g) = some r := h
      rw [frcR_ok, kCall_ok] at h
      exact opE_mono (op := .call .lock f args) hc h
    | thaw =>
      have h : frcR (kCall call al id .thaw (f.ev e) (args.map (·.ev e)) g) = some r := h
      rw [frcR_ok, kCall_ok] at h
      exact opE_mono (op := .call .thaw f args) hc h
    | pure =>
      have h : ko_pure f args orc call al lo id e g = some r := h
      unfold ko_pure at h
      split at h
      · rename_i fid fst caps hf
        split at h
        · rename_i bs hb
          split at h
          · rename_i v hv
            rw [frcV_ok] at h
            split at h
            · rename_i hfl
              cases h
              show vPure F al (f.ev e) (args.map (·.ev e)) g = _
              rw [hf]
              rw [frzLK_ok] at hb
              exact vPure_ok hb (ho _ _ _ hv) hfl
            · cases h
          · rw [frcR_ok, kCall_ok] at h
            exact opE_mono (op := .call .pure f args) hc h
        · cases h
      · cases h
  | _ => exact h
theorem regK_ok {call : CS} (hc : CLe call (callS F)) {b : Env} {draw : Bool} {base : Nat} : ∀ {ops : List AOper} {j : Nat} {t : ET} {g : G} {t' g'}, regK orc call b draw base ops j t g = some (t', g') → regE (callS F) draw base j ops (kev b t) g = some (kev b t', g')
  | [], j, t, g, t', g', h => by cases h; rfl
  | o :: os, j, t, g, t', g', h => by
    have h : (match wanted (kev b t) o.grd with
      | true => match opK orc call (allow draw base o.pre) base (base + j) o.op (kev b t) g with
        | some (v, g) => putO o.dst v t fun t => regK orc call b draw base os (j + 1) t g
        | none => none
      | false => putO o.dst .undef t fun t => regK orc call b draw base os (j + 1) t g) = some (t', g') := h
    simp only [regE]
    cases hw : wanted (kev b t) o.grd with
    | true =>
      rw [hw] at h
      simp only [if_true]
      cases hop : opK orc call (allow draw base o.pre) base (base + j) o.op (kev b t) g with
      | none => rw [hop] at h; cases h
      | some r =>
        obtain ⟨v, g1⟩ := r
        rw [hop] at h
        simp only at h
        rw [opK_ok ho hc hop]
        obtain ⟨t1, e1, e2⟩ := putO_ok b o.dst v t fun t => regK orc call b draw base os (j + 1) t g1
        rw [e1] at h
        simp only
        rw [← e2]
        exact regK_ok hc h
    | false =>
      rw [hw] at h
      simp only [Bool.false_eq_true, if_false]
      obtain ⟨t1, e1, e2⟩ := putO_ok b o.dst .undef t fun t => regK orc call b draw base os (j + 1) t g
      simp only [e1] at h
      rw [← e2]
      exact regK_ok hc h
theorem codeK_ok {call : CS} (hc : CLe call (callS F)) {b : Env} {k : Nat} : ∀ {c : ACode} {t : ET} {g : G} {o t' g'}, codeK orc call b k c t g = some (o, t', g') → codeS F c (kev b t) g = some (o, kev b t', g') := by
  intro c
  induction c with
  | skip => intro t g o t' g' h; cases h; exact codeS_skip F _ _
  | lab => intro t g o t' g' h; cases h; exact codeS_lab F _ _
  | ext id => intro t g o t' g' h; cases h; exact codeS_ext F _ _ _
  | ret => intro t g o t' g' h; cases h; exact codeS_ret F _ _
  | scp c ih => intro t g o t' g' h; rw [codeS_scp]; exact ih h
  | lck n c ih => intro t g o t' g' h; rw [codeS_lck]; exact ih h
  | imm n c ih =>
    intro t g o t' g' h
    have h : (match frzK g.hp depth (kev b t n) with
      | some v => ET.putK v (n + 1) t n fun t' => codeK orc call b k c t' ⟨lock g.hp (vis g.hp depth (kev b t n)), g.nx⟩
      | none => none) = some (o, t', g') := h
    rw [frzK_ok] at h
    rw [codeS_imm]
    cases hf : frz g.hp depth (kev b t n) with
    | none => rw [hf] at h; cases h
    | some v =>
      rw [hf] at h
      obtain ⟨t1, e1, e2⟩ := putO_ok b (some n) v t fun t' => codeK orc call b k c t' ⟨lock g.hp (vis g.hp depth (kev b t n)), g.nx⟩
      have e1' : ET.putK v (n + 1) t n (fun t' => codeK orc call b k c t' ⟨lock g.hp (vis g.hp depth (kev b t n)), g.nx⟩) = _ := e1
      simp only [e1'] at h
      have e3 : upd (kev b t) n v = kev b t1 := e2.symm
      simp only [e3]
      exact ih h
  | reg draw ops =>
    intro t g o t' g' h
    have h : (frcN g.nx fun base => frcN (base + ops.length) fun nx => match regK orc call b draw base ops 0 t ⟨g.hp, nx⟩ with
      | some (t, g) => some (Out.nrm, t, g)
      | none => none) = some (o, t', g') := h
    simp only [frcN_ok] at h
    rw [codeS_reg]
    cases hr : regK orc call b draw g.nx ops 0 t ⟨g.hp, g.nx + ops.length⟩ with
    | none => rw [hr] at h; cases h
    | some r =>
      obtain ⟨t1, g1⟩ := r
      rw [hr] at h
      cases h
      rw [regK_ok ho hc hr]
  | seq x y ihx ihy =>
    intro t g o t' g' h
    have h : (match codeK orc call b k x t g with
      | some (.nrm, t, g) => codeK orc call b k y t g
      | r => r) = some (o, t', g') := h
    rw [codeS_seq]
    cases hx : codeK orc call b k x t g with
    | none => rw [hx] at h; cases h
    | some r =>
      obtain ⟨o1, t1, g1⟩ := r
      rw [hx] at h
      rw [ihx hx]
      cases o1 with
      | nrm => exact ihy h
      | ext n => cases h; rfl
      | ret => cases h; rfl
  | cond x y z ihy ihz =>
    intro t g o t' g' h
    have h : (match x.ev (kev b t) with
      | .b w => Bool.rec (motive := fun _ => Option (Out × ET × G)) (codeK orc call b k z t g) (codeK orc call b k y t g) w
      | _ => none) = some (o, t', g') := h
    rw [codeS_cond]
    split at h
    · rename_i w hw
      rw [hw]
      cases w with
      | true => exact ihy h
      | false => exact ihz h
    · cases h
  | blk id c ih =>
    intro t g o t' g' h
    have h : (match codeK orc call b k c t g with
      | some (.ext n, t, g) => some (Bool.rec (motive := fun _ => Out) (.ext n) .nrm (Nat.beq n id), t, g)
      | r => r) = some (o, t', g') := h
    rw [codeS_blk]
    cases hx : codeK orc call b k c t g with
    | none => rw [hx] at h; cases h
    | some r =>
      obtain ⟨o1, t1, g1⟩ := r
      rw [hx] at h
      rw [ih hx]
      cases o1 with
      | nrm => cases h; rfl
      | ret => cases h; rfl
      | ext n =>
        simp only at h ⊢
        cases hb : Nat.beq n id with
        | true => rw [hb] at h; cases h; rw [if_pos (Nat.eq_of_beq_eq_true hb)]
        | false => rw [hb] at h; cases h; rw [if_neg (Nat.ne_of_beq_eq_false hb)]
  | loop c ih =>
    intro t g o t' g' h
    have key : ∀ (j : Nat) (t : ET) (g : G), iterK (codeK orc call b k c) j t g = some (o, t', g') → codeS F (.loop c) (kev b t) g = some (o, kev b t', g') := by
      intro j
      induction j with
      | zero => intro t g h; cases h
      | succ j ihj =>
        intro t g h
        have h : (match codeK orc call b k c t g with
          | some (.nrm, t, g) => iterK (codeK orc call b k c) j t g
          | r => r) = some (o, t', g') := h
        rw [codeS_loop]
        cases hx : codeK orc call b k c t g with
        | none => rw [hx] at h; cases h
        | some r =>
          obtain ⟨o1, t1, g1⟩ := r
          rw [hx] at h
          rw [ih hx]
          cases o1 with
          | nrm => exact ihj _ _ h
          | ext n => cases h; rfl
          | ret => cases h; rfl
    exact key k t g h
theorem callK_ok : ∀ (k : Nat), CLe (callK orc F k) (callS F)
  | 0 => fun _ _ _ _ h => by cases h
  | k + 1 => fun f asx g r h => by
    have h : (match F f with
      | none => none
      | some fn => match codeK orc (callK orc F k) (argEnv asx) k fn.body .leaf g with
        | some (.nrm, t, g) => (resE fn.res (kev (argEnv asx) t) g).map (·, g)
        | some (.ret, t, g) => (resE fn.res (kev (argEnv asx) t) g).map (·, g)
        | _ => none) = some r := h
    rw [callS_eq]
    cases hF : F f with
    | none => rw [hF] at h; cases h
    | some fn =>
      rw [hF] at h
      simp only at h ⊢
      have e0 : kev (argEnv asx) .leaf = argEnv asx := rfl
      cases hx : codeK orc (callK orc F k) (argEnv asx) k fn.body .leaf g with
      | none => rw [hx] at h; cases h
      | some q =>
        obtain ⟨o1, t1, g1⟩ := q
        rw [hx] at h
        have := codeK_ok ho (callK_ok k) hx
        rw [e0] at this
        rw [this]
        cases o1 with
        | nrm => exact h
        | ext n => cases h
        | ret => exact h
noncomputable def evK (orc : Orc) (F : Funs) (k : Nat) (rs : List ARes) (c : ACode) (e : Env) (g : G) : Bool :=
  match codeK orc (callK orc F k) e k c .leaf g with
  | some (.nrm, t, g) => (match resE rs (kev e t) g with | some v => (match frzK g.hp depth v with | some (.b x) => x | _ => false) | none => false)
  | some (.ret, t, g) => (match resE rs (kev e t) g with | some v => (match frzK g.hp depth v with | some (.b x) => x | _ => false) | none => false)
  | _ => false
theorem W_eval (k : Nat) {rs : List ARes} {c : ACode} {e : Env} {g : G} (h : evK orc F k rs c e g = true) : W F c e g (retQ rs (.b true)) := by
  unfold evK at h
  have fin : ∀ (t : ET) (g : G), (match resE rs (kev e t) g with | some v => (match frzK g.hp depth v with | some (.b x) => x | _ => false) | none => false) = true → (match resE rs (kev e t) g with | some v0 => frz g.hp depth v0 | none => none) = some (.b true) := by
    intro t g h
    cases hr : resE rs (kev e t) g with
    | none => rw [hr] at h; cases h
    | some v =>
      rw [hr] at h
      simp only [frzK_ok] at h ⊢
      cases hf : frz g.hp depth v with
      | none => rw [hf] at h; cases h
      | some w =>
        rw [hf] at h
        cases w <;> first | (cases h; done) | (simp only at h; subst h; rfl)
  split at h
  · rename_i t g1 hx
    exact ⟨_, _, _, codeK_ok ho (callK_ok ho k) hx, fin t g1 h⟩
  · rename_i t g1 hx
    exact ⟨_, _, _, codeK_ok ho (callK_ok ho k) hx, fin t g1 h⟩
  · cases h
end
end Go.Ab
end
