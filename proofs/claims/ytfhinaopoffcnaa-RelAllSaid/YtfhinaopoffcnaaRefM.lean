/- The document's relations: a matrix of bools. -/
import Derived.Test.YtfhinaopoffcnaaAbT
import Derived.Test.YtfhinaopoffcnaaRelT
import Derived.Test.YtfhinaopoffcnaaA_xref01
set_option linter.unusedVariables false
set_option linter.unusedSimpArgs false
namespace Go.Ab
abbrev Mx := Nat → Nat → Bool
def matR (M : Mx) : List AV := (List.range 1600).map fun i => .b (M (i / 40) (i % 40))
def matC (n : Nat) (M : Mx) : List AV := .i .i64 n :: matR M
theorem matR_len (M : Mx) : (matR M).length = 1600 := by simp [matR]
theorem matC_len (n : Nat) (M : Mx) : (matC n M).length = 1601 := by simp [matC, matR_len]
theorem matR_get {M : Mx} {a b : Nat} (ha : a < 40) (hb : b < 40) : (matR M)[a * 40 + b]? = some (.b (M a b)) := by
  have h : a * 40 + b < 1600 := by omega
  simp only [matR, List.getElem?_map, List.getElem?_range h, Option.map_some]
  rw [show (a * 40 + b) / 40 = a by omega, show (a * 40 + b) % 40 = b by omega]
theorem matC_n (n : Nat) (M : Mx) : part (matC n M) 0 none = some (.i .i64 n) := rfl
theorem matC_drop1 (n : Nat) (M : Mx) : (matC n M).drop 1 = matR M := rfl
theorem matC_at {n : Nat} {M : Mx} {a b : Nat} (h : a < 40 ∧ b < 40) : part (matC n M) (0 + 1 + a * 40 + b * 1) none = some (.b (M a b)) := by
  rw [show 0 + 1 + a * 40 + b * 1 = (a * 40 + b) + 1 by omega]
  simp only [part, matC, List.getElem?_cons_succ, matR_get h.1 h.2]
theorem matR_at {M : Mx} {a b : Nat} (h : a < 40 ∧ b < 40) : part (((matR M).drop (a * 40)).drop (b * 1)) 0 none = some (.b (M a b)) := by
  simp only [part, List.getElem?_drop, Nat.mul_one, Nat.add_zero, matR_get h.1 h.2]
def upd2 (M : Mx) (a b : Nat) (x : Bool) : Mx := fun i j => if i = a ∧ j = b then x else M i j
theorem matC_set {n : Nat} {M : Mx} {a b : Nat} {x : Bool} (h : a < 40 ∧ b < 40) : (matC n M).set (0 + 1 + a * 40 + b * 1) (.b x) = matC n (upd2 M a b x) := by
  rw [show 0 + 1 + a * 40 + b * 1 = (a * 40 + b) + 1 by omega]
  simp only [matC, List.set_cons_succ]
  refine congrArg (List.cons _) ?_
  refine List.ext_getElem? fun i => ?_
  rw [List.getElem?_set, matR_len]
  by_cases hi : i < 1600
  · have e1 : (matR M)[i]? = some (.b (M (i / 40) (i % 40))) := by simp [matR, hi]
    have e2 : (matR (upd2 M a b x))[i]? = some (.b (upd2 M a b x (i / 40) (i % 40))) := by simp [matR, hi]
    rw [e1, e2]
    by_cases hab : a * 40 + b = i
    · rw [if_pos hab, if_pos (by omega)]
      unfold upd2
      rw [if_pos (by omega)]
    · rw [if_neg hab]
      unfold upd2
      rw [if_neg (by omega)]
  · have e1 : (matR M)[i]? = none := by rw [List.getElem?_eq_none]; rw [matR_len]; omega
    have e2 : (matR (upd2 M a b x))[i]? = none := by rw [List.getElem?_eq_none]; rw [matR_len]; omega
    rw [e1, e2, if_neg (by omega)]
theorem matC_flat (n : Nat) (M : Mx) : (matC n M).all flat = true := by simp [matC, matR, flat]
theorem matC_one (n : Nat) (M : Mx) : (matC n M).all one = true := by simp [matC, matR, one]
theorem matR_one (M : Mx) : (matR M).all one = true := by simp [matR, one]
theorem part_matR (M : Mx) : part (matR M) 0 (some 1600) = some (.agg (matR M)) := by
  simp [part, matR_len]
  rw [List.take_of_length_le (by rw [matR_len]; omega)]
theorem splice_mat (n : Nat) (M M' : Mx) : splice (matC n M) 1 (matR M') = matC n M' := by
  have h : ∀ (vs : List AV) (a : AV) (cs : List AV), 2 ≤ vs.length → vs.length = cs.length → splice (a :: cs) 1 vs = a :: vs := by
    intro vs a cs h2 h
    match vs, h2 with
    | u :: v :: vs, _ =>
      show List.take 1 (a :: cs) ++ (u :: v :: vs) ++ List.drop (1 + (u :: v :: vs).length) (a :: cs) = _
      rw [List.drop_eq_nil_of_le (by simp at h ⊢; omega)]
      simp
  exact h _ _ _ (by rw [matR_len]; omega) (by rw [matR_len, matR_len])
theorem zero_mat (n : Nat) : AV.i .i64 n :: List.replicate 1600 (.b false) = matC n (fun _ _ => false) := by
  unfold matC matR
  refine congrArg (List.cons _) ?_
  refine List.ext_getElem? fun i => ?_
  by_cases hi : i < 1600
  · rw [List.getElem?_replicate, if_pos hi, List.getElem?_map, List.getElem?_range hi]; rfl
  · rw [List.getElem?_eq_none (by rw [List.length_replicate]; omega), List.getElem?_eq_none (by rw [List.length_map, List.length_range]; omega)]
theorem matC_congr {n : Nat} {M M' : Mx} (h : ∀ a b, a < 40 → b < 40 → M a b = M' a b) : matC n M = matC n M' := by
  unfold matC matR
  refine congrArg (List.cons _) ?_
  refine List.map_congr_left fun i hi => ?_
  have := List.mem_range.1 hi
  rw [h _ _ (by omega) (by omega)]
end Go.Ab
