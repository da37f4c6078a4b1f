/- What OrderBob rests on, part 3: lemmas, no claim of its own. -/
import Derived.Test.YtgfjjohnfbhjcaaPOrderBob2
section
set_option linter.unusedVariables false
set_option linter.unusedSimpArgs false
namespace Go.Ab
variable {F : Funs}
theorem sp_len (pk : Pk_rel F) {n : Nat} (R : Rw) : pureS F 17 [.ptr (relC n R)] = some (.i .i64 n) := by
  refine pure_of pk.rel_Rel_Len ?_
  simp (disch := omega) only [A_rel_Rel_Len, wp, Nat.reduceAdd, Nat.reduceMul, Nat.reduceSub, rl]
def maybeK (k : Nat) (R : Rw) : Rw := (List.range k).foldl (fun R a => upd R a (R a ||| bit a)) R
theorem maybeK_succ (k R) : maybeK (k + 1) R = upd (maybeK k R) k (maybeK k R k ||| bit k) := by simp [maybeK, List.range_succ]
set_option maxHeartbeats 1000000 in
theorem sp_maybe (pk : Pk_rel F) {n : Nat} (hn : n ≤ 40) (R : Rw) : pureS F 16 [.ptr (relC n R)] = some (.ptr (relC n (maybeK n R))) := by
  refine pure_of pk.rel_Rel_Maybe ?_
  simp (disch := omega) only [A_rel_Rel_Maybe, wp, Nat.reduceAdd, Nat.reduceMul, Nat.reduceSub, rl]
  refine W_loop (fun m e g => ∃ k, m = n - k ∧ k ≤ n ∧ e 11 = .i .i64 n ∧ e 12 = .i .i64 k ∧ e 3 = .mp 4 0 ∧ g.hp 4 = some (.cells (relC n (maybeK k R)) false) ∧ 4 < g.nx) n ?_ ?_
  · refine ⟨0, rfl, Nat.zero_le _, ?_⟩
    simp (disch := omega) only [wp, Nat.reduceAdd, Nat.reduceMul, Nat.reduceSub]
    exact ⟨rfl, rfl, by omega⟩
  · rintro m e g ⟨k, rfl, hk, h11, h12, h3, hg, hnx⟩
    by_cases hk' : k < n
    · have hk1 : (k : Int) < n := by omega
      have hw := succ_wrap (k := k) (by omega)
      simp (disch := omega) only [wp, Nat.reduceAdd, Nat.reduceMul, Nat.reduceSub, h11, h12, h3, hk1, hg, rl, hw]
      refine ⟨_, ?_, k + 1, rfl, by omega, rfl, ?_, by show 4 < _; omega⟩
      · omega
      · rw [maybeK_succ]
    · obtain rfl : k = n := by omega
      have hk1 : ¬ ((k : Int) < k) := by omega
      simp (disch := omega) only [wp, Nat.reduceAdd, Nat.reduceMul, Nat.reduceSub, h11, h12, h3, hk1, hg, rl]
def loopsR (n : Nat) (R : Rw) : Bool := (List.range n).any fun a => has n (plusR n R) a a
set_option maxHeartbeats 1000000 in
theorem sp_loops (pk : Pk_rel F) {n : Nat} (hn : n ≤ 40) (R : Rw) : pureS F 14 [.ptr (relC n R)] = some (.b (loopsR n R)) := by
  refine pure_of pk.rel_Rel_Loops ?_
  simp (disch := omega) only [A_rel_Rel_Loops, wp, Nat.reduceAdd, Nat.reduceMul, Nat.reduceSub, rl, sp_plus pk hn]
  refine W_loop (fun m e g => ∃ k, m = n - k ∧ k ≤ n ∧ e 10 = .i .i64 n ∧ e 11 = .i .i64 k ∧ e 3 = .ptr (relC n (plusR n R)) ∧ ∀ a, a < k → has n (plusR n R) a a = false) n ?_ ?_
  · refine ⟨0, rfl, Nat.zero_le _, ?_⟩
    simp (disch := omega) only [wp, Nat.reduceAdd, Nat.reduceMul, Nat.reduceSub]
    exact ⟨rfl, fun a ha => absurd ha (Nat.not_lt_zero _)⟩
  · rintro m e g ⟨k, rfl, hk, h10, h11, h3, hall⟩
    by_cases hk' : k < n
    · have hk1 : (k : Int) < n := by omega
      have hw := succ_wrap (k := k) (by omega)
      by_cases hh : has n (plusR n R) k k = true
      · simp (disch := omega) only [wp, Nat.reduceAdd, Nat.reduceMul, Nat.reduceSub, h10, h11, h3, hk1, rl, hw, sp_has pk hn, hh]
        have : loopsR n R = true := List.any_eq_true.2 ⟨k, List.mem_range.2 hk', hh⟩
        rw [this]
      · simp (disch := omega) only [wp, Nat.reduceAdd, Nat.reduceMul, Nat.reduceSub, h10, h11, h3, hk1, rl, hw, sp_has pk hn, hh]
        refine ⟨_, ?_, k + 1, rfl, by omega, rfl, fun a ha => ?_⟩
        · omega
        · by_cases hak : a = k
          · subst hak; simpa using hh
          · exact hall a (by omega)
    · obtain rfl : k = n := by omega
      have hk1 : ¬ ((k : Int) < k) := by omega
      simp (disch := omega) only [wp, Nat.reduceAdd, Nat.reduceMul, Nat.reduceSub, h10, h11, h3, hk1, rl]
      have : loopsR k R = false := List.any_eq_false.2 fun a ha => by rw [hall a (List.mem_range.1 ha)]; simp
      rw [this]
def rowPr (n : Nat) (R : Rw) (a j : Nat) : List (Int × Int) := ((List.range j).filter fun (b : Nat) => has n R a b).map fun (b : Nat) => ((a : Int), (b : Int))
def pairsK (n k : Nat) (R : Rw) : List (Int × Int) := (List.range k).flatMap fun a => rowPr n R a n
def pairsR (n : Nat) (R : Rw) : List (Int × Int) := pairsK n n R
theorem pairsK_succ (n k R) : pairsK n (k + 1) R = pairsK n k R ++ rowPr n R k n := by simp [pairsK, List.range_succ]
theorem rowPr_succ (n R a j) : rowPr n R a (j + 1) = if has n R a j then rowPr n R a j ++ [((a : Int), (j : Int))] else rowPr n R a j := by
  unfold rowPr
  rw [List.range_succ, List.filter_append, List.filter_cons]
  split <;> simp
def partL (n k j : Nat) (R : Rw) : List (Int × Int) := pairsK n k R ++ rowPr n R k j
theorem partL_0 (n k R) : partL n k 0 R = pairsK n k R := by simp [partL, rowPr]
theorem partL_n (n k R) : partL n k n R = pairsK n (k + 1) R := (pairsK_succ n k R).symm
theorem partL_succ (n k j R) : partL n k (j + 1) R = if has n R k j then partL n k j R ++ [((k : Int), (j : Int))] else partL n k j R := by
  unfold partL
  rw [rowPr_succ]; split <;> simp
theorem pairsC_app (l m : List (Int × Int)) : pairsC (l ++ m) = pairsC l ++ pairsC m := by simp [pairsC]
theorem pairsC_one (a b : Int) : pairsC [(a, b)] = [.i .i64 a, .i .i64 b] := rfl
def Live (g : G) (esz : Nat) (t : Tok) : Prop := t = .rig ∨ ∃ τ, t = .own τ esz ∧ g.hp τ = some (.tok true) ∧ τ < g.nx
set_option maxHeartbeats 1000000 in
theorem sp_pairs (pk : Pk_rel F) {n : Nat} (hn : n ≤ 40) (R : Rw) : pureS F 15 [.ptr (relC n R)] = some (.sl (pairsC (pairsR n R)) (pairsR n R).length .non) := by
  refine pure_of pk.rel_Rel_Pairs ?_
  simp (disch := omega) only [A_rel_Rel_Pairs, wp, Nat.reduceAdd, Nat.reduceMul, Nat.reduceSub, rl]
  refine W_loop (fun m e g => ∃ k t, m = n - k ∧ k ≤ n ∧ e 0 = .ptr (relC n R) ∧ e 9 = .i .i64 n ∧ e 10 = .i .i64 k ∧ e 3 = .sl (pairsC (pairsK n k R)) (pairsK n k R).length t ∧ Live g 2 t ∧ (pairsK n k R).length ≤ 40 * k) n ?_ ?_
  · refine ⟨0, .rig, rfl, Nat.zero_le _, ?_⟩
    simp (disch := omega) only [wp, Nat.reduceAdd, Nat.reduceMul, Nat.reduceSub]
    exact ⟨rfl, rfl, .inl rfl, Nat.zero_le _⟩
  · rintro m e g ⟨k, t, rfl, hk, h0, h9, h10, h3, ht, hl⟩
    by_cases hk' : k < n
    · have hk1 : (k : Int) < n := by omega
      have hw := succ_wrap (k := k) (by omega)
      simp (disch := omega) only [wp, Nat.reduceAdd, Nat.reduceMul, Nat.reduceSub, h0, h9, h10, h3, hk1, rl]
      refine W_loop (fun m e g => ∃ j t, m = n - j ∧ j ≤ n ∧ e 0 = .ptr (relC n R) ∧ e 9 = .i .i64 n ∧ e 10 = .i .i64 k ∧ e 4 = .i .i64 k ∧ e 16 = .i .i64 n ∧ e 17 = .i .i64 j ∧ e 3 = .sl (pairsC (partL n k j R)) (partL n k j R).length t ∧ Live g 2 t ∧ (partL n k j R).length ≤ 40 * k + j) n ?_ ?_
      · refine ⟨0, t, rfl, Nat.zero_le _, ?_⟩
        simp (disch := omega) only [wp, Nat.reduceAdd, Nat.reduceMul, Nat.reduceSub, h0, h9, h10, h3]
        rw [partL_0]
        refine ⟨rfl, rfl, ?_, by omega⟩
        rcases ht with rfl | ⟨τ, rfl, hτ, hlt⟩
        · exact .inl rfl
        · exact .inr ⟨τ, rfl, hτ, Nat.lt_of_lt_of_le hlt (by dsimp only; omega)⟩
      · rintro m e g ⟨j, t, rfl, hj, h0, h9, h10, h4, h16, h17, h3, ht, hl⟩
        have hLn := partL_succ n k j R
        by_cases hj' : j < n
        · have hj1 : (j : Int) < n := by omega
          have hwj := succ_wrap (k := j) (by omega)
          by_cases hh : has n R k j = true
          · rw [if_pos hh] at hLn
            rcases ht with rfl | ⟨τ, rfl, hτ, hlt⟩
            · simp (disch := omega) only [wp, Nat.reduceAdd, Nat.reduceMul, Nat.reduceSub, h0, h9, h10, h4, h16, h17, h3, hj1, rl, sp_has pk hn, hh, hwj, pairsC_len]
              refine ⟨n - (j + 1), ?_, j + 1, ?_⟩
              · omega
              · rw [hLn, pairsC_app, pairsC_one, List.length_append]
                exact ⟨_, rfl, by omega, rfl, rfl, .inr ⟨_, rfl, upd_same _ _ _, by dsimp only; omega⟩, by simp; omega⟩
            · simp (disch := omega) only [wp, Nat.reduceAdd, Nat.reduceMul, Nat.reduceSub, h0, h9, h10, h4, h16, h17, h3, hj1, rl, sp_has pk hn, hh, hwj, pairsC_len, hτ]
              refine ⟨n - (j + 1), ?_, j + 1, ?_⟩
              · omega
              · rw [hLn, pairsC_app, pairsC_one, List.length_append]
                exact ⟨_, rfl, by omega, rfl, rfl, .inr ⟨_, rfl, upd_same _ _ _, by dsimp only; omega⟩, by simp; omega⟩
          · rw [if_neg hh] at hLn
            simp (disch := omega) only [wp, Nat.reduceAdd, Nat.reduceMul, Nat.reduceSub, h0, h9, h10, h4, h16, h17, h3, hj1, rl, sp_has pk hn, hh, hwj]
            refine ⟨_, ?_, j + 1, t, rfl, by omega, rfl, ?_⟩
            · omega
            · rw [hLn]
              refine ⟨rfl, ?_, by omega⟩
              rcases ht with rfl | ⟨τ, rfl, hτ, hlt⟩
              · exact .inl rfl
              · exact .inr ⟨τ, rfl, hτ, Nat.lt_of_lt_of_le hlt (by dsimp only; omega)⟩
        · obtain rfl : j = n := by omega
          have hj1 : ¬ ((j : Int) < j) := by omega
          simp (disch := omega) only [wp, Nat.reduceAdd, Nat.reduceMul, Nat.reduceSub, h0, h9, h10, h4, h16, h17, h3, hj1, hw]
          refine ⟨_, ?_, k + 1, t, rfl, by omega, rfl, ?_⟩
          · omega
          · rw [← partL_n]
            refine ⟨rfl, ?_, by omega⟩
            rcases ht with rfl | ⟨τ, rfl, hτ, hlt⟩
            · exact .inl rfl
            · exact .inr ⟨τ, rfl, hτ, Nat.lt_of_lt_of_le hlt (by dsimp only; omega)⟩
    · obtain rfl : k = n := by omega
      have hk1 : ¬ ((k : Int) < k) := by omega
      simp (disch := omega) only [wp, Nat.reduceAdd, Nat.reduceMul, Nat.reduceSub, h0, h9, h10, h3, hk1, rl]
      rfl
end Go.Ab
end
section
set_option linter.unusedVariables false
set_option linter.unusedSimpArgs false
namespace Go.Ab
variable {F : Funs}
def byK (φ : BitVec 64 → BitVec 64 → BitVec 64) (R S : Rw) (k : Nat) : Rw := fun a => if a < k then φ (R a) (S a) else 0
theorem byK_succ (φ R S k) : upd (byK φ R S k) k (φ (R k) (S k)) = byK φ R S (k + 1) := by
  funext a
  unfold upd byK
  by_cases h : a = k
  · subst h; simp
  · rw [if_neg h]
    by_cases h2 : a < k
    · rw [if_pos h2, if_pos (by omega)]
    · rw [if_neg h2, if_neg (by omega)]
theorem maxI (n m : Nat) : (if (n : Int) < m then (m : Int) else n) = ((max n m : Nat) : Int) := by split <;> omega
set_option maxHeartbeats 1000000 in
theorem sp_by (pk : Pk_rel F) {n m : Nat} (hn : n ≤ 40) (hm : m ≤ 40) (R S : Rw) {fid : Nat} {φ : BitVec 64 → BitVec 64 → BitVec 64} (hφ : ∀ x y, pureS F fid [U x, U y] = some (U (φ x y))) :
    pureS F 51 [.ptr (relC n R), .ptr (relC m S), .fn fid [] []] = some (.ptr (relC (max n m) fun a => φ (R a) (S a))) := by
  refine pure_of pk.rel_Rel_by ?_
  have hz : AV.i .i64 (max n m : Nat) :: List.replicate 40 (.i .u64 0) = relC (max n m) (byK φ R S 0) := rfl
  simp (disch := omega) only [A_rel_Rel_by, wp, Nat.reduceAdd, Nat.reduceMul, Nat.reduceSub, rl, maxI, hz, List.all_append, List.all_replicate]
  refine W_loop (fun q e g => ∃ k, q = 40 - k ∧ k ≤ 40 ∧ e 0 = .ptr (relC n R) ∧ e 1 = .ptr (relC m S) ∧ e 2 = .fn fid [] [] ∧ e 20 = .i .i64 k ∧ e 7 = .mp 11 0 ∧ g.hp 11 = some (.cells (relC (max n m) (byK φ R S k)) false) ∧ 11 < g.nx) 40 ?_ ?_
  · refine ⟨0, rfl, Nat.zero_le _, ?_⟩
    simp (disch := omega) only [wp, Nat.reduceAdd, Nat.reduceMul, Nat.reduceSub]
    exact ⟨rfl, by omega⟩
  · rintro q e g ⟨k, rfl, hk, h0, h1, h2, h20, h7, hg, hnx⟩
    by_cases hk' : k < 40
    · have hk1 : (k : Int) < 40 := by omega
      have hw := succ_wrap (k := k) (by omega)
      simp (disch := omega) only [wp, Nat.reduceAdd, Nat.reduceMul, Nat.reduceSub, h0, h1, h2, h20, h7, hk1, hg, rl, hw, hφ, byK_succ]
      refine ⟨40 - (k + 1), ?_, k + 1, rfl, by omega, rfl, rfl, by first | omega | (dsimp only; omega)⟩
      omega
    · obtain rfl : k = 40 := by omega
      have hk1 : ¬ (((40 : Nat) : Int) < 40) := by omega
      simp (disch := omega) only [wp, Nat.reduceAdd, Nat.reduceMul, Nat.reduceSub, h0, h1, h2, h20, h7, hg, rl, hk1]
      rw [relC_congr (R := byK φ R S 40) (S := fun a => φ (R a) (S a)) (fun a ha => by simp [byK, ha])]
theorem sp_or1 (pk : Pk_rel F) (x y : BitVec 64) : pureS F 53 [U x, U y] = some (U (x ||| y)) := by
  refine pure_of pk.rel_Rel_Or_1 ?_
  simp (disch := omega) only [A_rel_Rel_Or_1, wp, Nat.reduceAdd, Nat.reduceMul, Nat.reduceSub, rl]
theorem sp_and1 (pk : Pk_rel F) (x y : BitVec 64) : pureS F 52 [U x, U y] = some (U (x &&& y)) := by
  refine pure_of pk.rel_Rel_And_1 ?_
  simp (disch := omega) only [A_rel_Rel_And_1, wp, Nat.reduceAdd, Nat.reduceMul, Nat.reduceSub, rl]
structure RelLs (F : Funs) : Prop where
  rel_Rel_In : F 22 = some A_rel_Rel_In
  rel_Rel_Less : F 26 = some A_rel_Rel_Less
  rel_Rel_Less_1 : F 54 = some A_rel_Rel_Less_1
def orR (R S : Rw) : Rw := fun a => R a ||| S a
def andR (R S : Rw) : Rw := fun a => R a &&& S a
theorem sp_or (pk : Pk_rel F) {n m : Nat} (hn : n ≤ 40) (hm : m ≤ 40) (R S : Rw) : pureS F 24 [.ptr (relC n R), .ptr (relC m S)] = some (.ptr (relC (max n m) (orR R S))) := by
  refine pure_of pk.rel_Rel_Or ?_
  simp (disch := omega) only [A_rel_Rel_Or, wp, Nat.reduceAdd, Nat.reduceMul, Nat.reduceSub, rl, sp_by pk hn hm R S (sp_or1 pk)]
  rfl
theorem sp_and (pk : Pk_rel F) {n m : Nat} (hn : n ≤ 40) (hm : m ≤ 40) (R S : Rw) : pureS F 18 [.ptr (relC n R), .ptr (relC m S)] = some (.ptr (relC (max n m) (andR R S))) := by
  refine pure_of pk.rel_Rel_And ?_
  simp (disch := omega) only [A_rel_Rel_And, wp, Nat.reduceAdd, Nat.reduceMul, Nat.reduceSub, rl, sp_by pk hn hm R S (sp_and1 pk)]
  rfl
def stepT (n a : Nat) (R S : Rw) (T : Rw) (b : Nat) : Rw := if has n R a b then upd T a (T a ||| S b) else T
def rowT (n a k : Nat) (R S T : Rw) : Rw := (List.range k).foldl (stepT n a R S) T
def thenK (n k : Nat) (R S : Rw) : Rw := (List.range k).foldl (fun T a => rowT n a n R S T) (fun _ => 0)
def thenR (n : Nat) (R S : Rw) : Rw := thenK n n R S
theorem rowT_succ (n a k R S T) : rowT n a (k + 1) R S T = stepT n a R S (rowT n a k R S T) k := by simp [rowT, List.range_succ]
theorem thenK_succ (n k R S) : thenK n (k + 1) R S = rowT n k n R S (thenK n k R S) := by simp [thenK, List.range_succ]
set_option maxHeartbeats 1000000 in
theorem sp_then (pk : Pk_rel F) {n m : Nat} (hn : n ≤ 40) (hm : m ≤ 40) (R S : Rw) : pureS F 23 [.ptr (relC n R), .ptr (relC m S)] = some (.ptr (relC (max n m) (thenR n R S))) := by
  refine pure_of pk.rel_Rel_Then ?_
  have hz : AV.i .i64 (max n m : Nat) :: List.replicate 40 (.i .u64 0) = relC (max n m) (thenK n 0 R S) := rfl
  simp (disch := omega) only [A_rel_Rel_Then, wp, Nat.reduceAdd, Nat.reduceMul, Nat.reduceSub, rl, maxI, hz, List.all_append, List.all_replicate]
  refine W_loop (fun q e g => ∃ k, q = n - k ∧ k ≤ n ∧ e 0 = .ptr (relC n R) ∧ e 1 = .ptr (relC m S) ∧ e 22 = .i .i64 n ∧ e 23 = .i .i64 k ∧ e 5 = .mp 11 0 ∧ g.hp 11 = some (.cells (relC (max n m) (thenK n k R S)) false) ∧ 11 < g.nx) n ?_ ?_
  · refine ⟨0, rfl, Nat.zero_le _, ?_⟩
    simp (disch := omega) only [wp, Nat.reduceAdd, Nat.reduceMul, Nat.reduceSub]
    exact ⟨rfl, by omega⟩
  · rintro q e g ⟨k, rfl, hk, h0, h1, h22, h23, h5, hg, hnx⟩
    by_cases hk' : k < n
    · have hk1 : (k : Int) < n := by omega
      have hw := succ_wrap (k := k) (by omega)
      simp (disch := omega) only [wp, Nat.reduceAdd, Nat.reduceMul, Nat.reduceSub, h0, h1, h22, h23, h5, hk1, rl]
      refine W_loop (fun q e g => ∃ j, q = n - j ∧ j ≤ n ∧ e 0 = .ptr (relC n R) ∧ e 1 = .ptr (relC m S) ∧ e 22 = .i .i64 n ∧ e 23 = .i .i64 k ∧ e 6 = .i .i64 k ∧ e 29 = .i .i64 n ∧ e 30 = .i .i64 j ∧ e 5 = .mp 11 0 ∧ g.hp 11 = some (.cells (relC (max n m) (rowT n k j R S (thenK n k R S))) false) ∧ 11 < g.nx) n ?_ ?_
      · refine ⟨0, rfl, Nat.zero_le _, ?_⟩
        simp (disch := omega) only [wp, Nat.reduceAdd, Nat.reduceMul, Nat.reduceSub, h0, h1, h22, h23, h5, hg]
        exact ⟨rfl, rfl, by omega⟩
      · rintro q e g ⟨j, rfl, hj, h0, h1, h22, h23, h6, h29, h30, h5, hg, hnx⟩
        by_cases hj' : j < n
        · have hj1 : (j : Int) < n := by omega
          have hwj := succ_wrap (k := j) (by omega)
          by_cases hh : has n R k j = true
          · simp (disch := omega) only [wp, Nat.reduceAdd, Nat.reduceMul, Nat.reduceSub, h0, h1, h22, h23, h6, h29, h30, h5, hj1, hg, rl, sp_has pk hn, hh, hwj]
            refine ⟨n - (j + 1), ?_, j + 1, rfl, by omega, rfl, ?_, by first | omega | (dsimp only; omega)⟩
            · omega
            · rw [rowT_succ, stepT, if_pos hh]
          · simp (disch := omega) only [wp, Nat.reduceAdd, Nat.reduceMul, Nat.reduceSub, h0, h1, h22, h23, h6, h29, h30, h5, hj1, hg, rl, sp_has pk hn, hh, hwj]
            refine ⟨n - (j + 1), ?_, j + 1, rfl, by omega, rfl, ?_, by first | omega | (dsimp only; omega)⟩
            · omega
            · rw [rowT_succ, stepT, if_neg hh]
        · obtain rfl : j = n := by omega
          have hj1 : ¬ ((j : Int) < j) := by omega
          simp (disch := omega) only [wp, Nat.reduceAdd, Nat.reduceMul, Nat.reduceSub, h0, h1, h22, h23, h6, h29, h30, h5, hj1, hg, hw]
          refine ⟨j - (k + 1), ?_, k + 1, rfl, by omega, rfl, ?_, by first | omega | (dsimp only; omega)⟩
          · omega
          · rw [thenK_succ]
    · obtain rfl : k = n := by omega
      have hk1 : ¬ ((k : Int) < k) := by omega
      simp (disch := omega) only [wp, Nat.reduceAdd, Nat.reduceMul, Nat.reduceSub, h0, h1, h22, h23, h5, hk1, hg, rl]
      rfl
theorem pairsR_mem {n : Nat} {R : Rw} {p : Int × Int} (h : p ∈ pairsR n R) : 0 ≤ p.1 ∧ p.1 < n ∧ 0 ≤ p.2 ∧ p.2 < n := by
  simp only [pairsR, pairsK, rowPr, List.mem_flatMap, List.mem_map, List.mem_filter, List.mem_range] at h
  obtain ⟨a, ha, b, ⟨hb, _⟩, rfl⟩ := h
  simp only
  omega
theorem pairsK_len (n k : Nat) (R : Rw) : (pairsK n k R).length ≤ k * n := by
  induction k with
  | zero => simp [pairsK]
  | succ k ih =>
    rw [pairsK_succ, List.length_append, Nat.succ_mul]
    have : (rowPr n R k n).length ≤ n := by
      unfold rowPr
      rw [List.length_map]
      exact Nat.le_trans (List.length_filter_le _ _) (by simp)
    omega
theorem pairsR_len {n : Nat} (hn : n ≤ 40) (R : Rw) : (pairsR n R).length ≤ 1600 := by
  have h1 := pairsK_len n n R
  have h2 : n * n ≤ 40 * 40 := Nat.mul_le_mul hn hn
  show (pairsK n n R).length ≤ 1600
  omega
end Go.Ab
end
section
set_option linter.unusedVariables false
set_option linter.unusedSimpArgs false
namespace Go.Ab
def hb (R : Rw) (a b : Nat) : Bool := (R a).getLsbD b
def hN (n : Nat) (R : Rw) (a b : Nat) : Bool := decide (a < n) && decide (b < n) && hb R a b
def Wf (n : Nat) (R : Rw) : Prop := ∀ a b, hb R a b = true → a < n ∧ b < n
theorem has_N (n : Nat) (R : Rw) (a b : Nat) : has n R a b = hN n R a b := by
  unfold has hN hb
  have : decide (0 ≤ (a : Int) ∧ (a : Int) < n ∧ 0 ≤ (b : Int) ∧ (b : Int) < n) = (decide (a < n) && decide (b < n)) := by
    rw [Bool.eq_iff_iff]; simp
  rw [this]; rfl
theorem hN_wf {n : Nat} {R : Rw} (h : Wf n R) (a b : Nat) : hN n R a b = hb R a b := by
  unfold hN
  cases hh : hb R a b with
  | false => simp
  | true => obtain ⟨h1, h2⟩ := h a b hh; simp [h1, h2]
theorem rw_ext {R S : Rw} (h : ∀ a b, b < 64 → hb R a b = hb S a b) : R = S := by
  funext a
  exact BitVec.eq_of_getLsbD_eq fun b hb' => h a b hb'
theorem bit_get {a b : Nat} (ha : a < 64) : (bit a).getLsbD b = decide (b = a) := by
  unfold bit
  rw [BitVec.getLsbD_shiftLeft]
  by_cases h : b = a
  · subst h; simp [ha]
  · by_cases h2 : b < a
    · simp [h, h2]
    · have : b - a ≠ 0 := by omega
      simp [h, h2]
      intro _
      omega
theorem hb_upd (R : Rw) (x : BitVec 64) (c a b : Nat) : hb (upd R c x) a b = if a = c then x.getLsbD b else hb R a b := by
  unfold hb upd; split <;> rfl
theorem hb_zero (a b : Nat) : hb (fun _ => 0) a b = false := by simp [hb]
theorem hb_add {n : Nat} (hn : n ≤ 40) (R : Rw) (p : Int × Int) (a b : Nat) : hb (addR n R p) a b = (hb R a b || (inR n p && decide (p = ((a : Int), (b : Int))))) := by
  unfold addR
  by_cases h : inR n p = true
  · rw [if_pos h, hb_upd, h]
    obtain ⟨x, y⟩ := p
    simp only [inR, decide_eq_true_eq] at h
    by_cases ha : a = x.toNat
    · subst ha
      rw [if_pos rfl, BitVec.getLsbD_or, bit_get (by omega)]
      congr 1
      simp only [Bool.true_and]
      rw [decide_eq_decide]
      simp only [Prod.mk.injEq]
      omega
    · rw [if_neg ha]
      have : ¬ ((x, y) = ((a : Int), (b : Int))) := by simp only [Prod.mk.injEq]; omega
      simp [this]
  · rw [if_neg h]
    simp only [Bool.not_eq_true] at h
    simp [h]
theorem hb_new {n : Nat} (hn : n ≤ 40) (l : List (Int × Int)) (a b : Nat) : hb (newR n l) a b = (decide (a < n) && decide (b < n) && l.any fun p => decide (p = ((a : Int), (b : Int)))) := by
  have key : ∀ (l : List (Int × Int)) (R : Rw), hb (l.foldl (addR n) R) a b = (hb R a b || (decide (a < n) && decide (b < n) && l.any fun p => decide (p = ((a : Int), (b : Int))))) := by
    intro l
    induction l with
    | nil => intro R; simp
    | cons p l ih =>
      intro R
      rw [List.foldl_cons, ih, hb_add hn, List.any_cons]
      by_cases hp : p = ((a : Int), (b : Int))
      · subst hp
        have : inR n ((a : Int), (b : Int)) = (decide (a < n) && decide (b < n)) := by
          unfold inR; rw [Bool.eq_iff_iff]; simp
        rw [this]
        cases hb R a b <;> cases decide (a < n) <;> cases decide (b < n) <;> simp
      · simp [hp]
  unfold newR
  rw [key l, hb_zero]; rfl
theorem wf_new {n : Nat} (hn : n ≤ 40) (l : List (Int × Int)) : Wf n (newR n l) := by
  intro a b h
  rw [hb_new hn] at h
  simp at h; omega
theorem hb_or (R S : Rw) (a b : Nat) : hb (orR R S) a b = (hb R a b || hb S a b) := by simp [hb, orR]
theorem hb_and (R S : Rw) (a b : Nat) : hb (andR R S) a b = (hb R a b && hb S a b) := by simp [hb, andR]
theorem wf_or {n : Nat} {R S : Rw} (h : Wf n R) (k : Wf n S) : Wf n (orR R S) := fun a b hh => by
  rw [hb_or, Bool.or_eq_true] at hh; exact hh.elim (h a b) (k a b)
theorem wf_and {n : Nat} {R S : Rw} (h : Wf n R) : Wf n (andR R S) := fun a b hh => by
  rw [hb_and, Bool.and_eq_true] at hh; exact h a b hh.1
theorem hb_maybeK (R : Rw) (k a b : Nat) (hk : k ≤ 64) : hb (maybeK k R) a b = (hb R a b || (decide (a < k) && decide (b = a))) := by
  induction k with
  | zero => simp [maybeK]
  | succ k ih =>
    rw [maybeK_succ, hb_upd]
    by_cases h : a = k
    · subst h
      rw [if_pos rfl, BitVec.getLsbD_or, bit_get (by omega)]
      have := ih (by omega)
      unfold hb at this ⊢
      rw [this]; simp
    · rw [if_neg h, ih (by omega)]
      have : decide (a < k) = decide (a < k + 1) := by rw [decide_eq_decide]; omega
      rw [this]
theorem hb_rowT (n a : Nat) (R S T : Rw) (k : Nat) (x y : Nat) : hb (rowT n a k R S T) x y = (hb T x y || (decide (x = a) && (List.range k).any fun b => hN n R a b && hb S b y)) := by
  induction k with
  | zero => simp [rowT]
  | succ k ih =>
    rw [rowT_succ, stepT, List.range_succ, List.any_append, has_N]
    by_cases hh : hN n R a k = true
    · rw [if_pos hh, hb_upd]
      by_cases hx : x = a
      · subst hx
        rw [if_pos rfl, BitVec.getLsbD_or]
        have := ih
        unfold hb at this ⊢
        rw [this]
        simp [hh, Bool.or_assoc, hb]
      · rw [if_neg hx, ih]; simp [hx]
    · rw [if_neg hh, ih]
      simp [hh]
theorem hb_thenK (n : Nat) (R S : Rw) (k : Nat) (x y : Nat) : hb (thenK n k R S) x y = (decide (x < k) && (List.range n).any fun b => hN n R x b && hb S b y) := by
  induction k with
  | zero => simp [thenK, hb]
  | succ k ih =>
    rw [thenK_succ, hb_rowT, ih]
    by_cases hx : x = k
    · subst hx; simp
    · have : decide (x < k) = decide (x < k + 1) := by rw [decide_eq_decide]; omega
      rw [this]; simp [hx]
theorem hb_then {n : Nat} {R S : Rw} (hR : Wf n R) (a b : Nat) : hb (thenR n R S) a b = true ↔ ∃ c, hb R a c = true ∧ hb S c b = true := by
  unfold thenR
  rw [hb_thenK]
  simp only [Bool.and_eq_true, decide_eq_true_eq, List.any_eq_true, List.mem_range, hN_wf hR]
  constructor
  · rintro ⟨_, c, _, h1, h2⟩; exact ⟨c, h1, h2⟩
  · rintro ⟨c, h1, h2⟩; obtain ⟨h3, h4⟩ := hR a c h1; exact ⟨h3, c, h4, h1, h2⟩
theorem wf_then {n : Nat} {R S : Rw} (hR : Wf n R) (hS : Wf n S) : Wf n (thenR n R S) := fun a b h => by
  obtain ⟨c, h1, h2⟩ := (hb_then hR a b).1 h
  exact ⟨(hR a c h1).1, (hS c b h2).2⟩
inductive Thru (r : Nat → Nat → Prop) (k : Nat) : Nat → Nat → Prop
  | one {a b} : r a b → Thru r k a b
  | join {a c b} : c < k → Thru r k a c → Thru r k c b → Thru r k a b
theorem Thru.mono {r : Nat → Nat → Prop} {k k' : Nat} (h : k ≤ k') {a b : Nat} (t : Thru r k a b) : Thru r k' a b := by
  induction t with
  | one h => exact .one h
  | join hc _ _ ih1 ih2 => exact .join (by omega) ih1 ih2
theorem hb_rowP {n b : Nat} (hb' : b < n) (R : Rw) (hR : Wf n R) (k : Nat) (hk : k ≤ n) (x y : Nat) : hb (rowP n b k R) x y = (hb R x y || (decide (x < k) && hb R x b && hb R b y)) := by
  induction k generalizing x y with
  | zero => simp [rowP]
  | succ k ih =>
    have ih := fun x y => ih (by omega) x y
    have hwf : Wf n (rowP n b k R) := fun x y h => by
      rw [ih] at h
      simp at h
      rcases h with h | ⟨⟨_, h1⟩, h2⟩
      · exact hR x y h
      · exact ⟨(hR x b h1).1, (hR b y h2).2⟩
    have hrow : rowP n b k R b = R b := by
      refine BitVec.eq_of_getLsbD_eq fun y _ => ?_
      have := ih b y
      unfold hb at this
      rw [this]
      cases (R b).getLsbD y <;> cases (R b).getLsbD b <;> simp
    rw [rowP_succ, stepP, has_N, hN_wf hwf, ih k b]
    have hkb : (hb R k b || (decide (k < k) && hb R k b && hb R b b)) = hb R k b := by simp
    rw [hkb]
    by_cases hh : hb R k b = true
    · rw [if_pos hh, hb_upd]
      by_cases hx : x = k
      · subst hx
        rw [if_pos rfl, BitVec.getLsbD_or, hrow]
        have := ih x y
        unfold hb at this hh ⊢
        rw [this]
        simp [hh]
      · rw [if_neg hx, ih]
        have : decide (x < k) = decide (x < k + 1) := by rw [decide_eq_decide]; omega
        rw [this]
    · rw [if_neg hh, ih]
      by_cases hx : x = k
      · subst hx; simp [hh]
      · have : decide (x < k) = decide (x < k + 1) := by rw [decide_eq_decide]; omega
        rw [this]
inductive Steps' (r : Nat → Nat → Prop) : Nat → Nat → Prop
  | one {a b} : r a b → Steps' r a b
  | join {a c b} : Steps' r a c → Steps' r c b → Steps' r a b
end Go.Ab
end
section
set_option linter.unusedVariables false
set_option linter.unusedSimpArgs false
namespace Go.Ab
variable {F : Funs}
theorem t1_neg (u n : Int) (e1 : u % n + n * (u / n) = u) : -u = (n - u % n) + n * (-(u / n) - 1) := by
  have e2 : n * (-(u / n) - 1) = -(n * (u / n)) - n := by rw [Int.mul_sub, Int.mul_neg, Int.mul_one]
  rw [e2]
  generalize n * (u / n) = c at *
  generalize u % n = b at *
  omega
theorem tmod_cases {v n : Int} (hn : 0 < n) : (if v.tmod n < 0 then v.tmod n + n else v.tmod n) = v % n := by
  have h2 := Int.emod_nonneg v (by omega : n ≠ 0)
  have h3 := Int.emod_lt_of_pos v hn
  by_cases hv : 0 ≤ v
  · rw [Int.tmod_eq_emod_of_nonneg hv, if_neg (by omega)]
  · obtain ⟨u, rfl⟩ : ∃ u, v = -u := ⟨-v, by omega⟩
    rw [Int.neg_tmod, Int.tmod_eq_emod_of_nonneg (by omega : 0 ≤ u)]
    have h4 := Int.emod_nonneg u (by omega : n ≠ 0)
    have h5 := Int.emod_lt_of_pos u hn
    have e1 := Int.emod_add_mul_ediv u n
    by_cases h6 : u % n = 0
    · rw [h6, Int.neg_zero, if_neg (by omega)]
      exact (Int.emod_eq_zero_of_dvd (Int.dvd_neg.2 (Int.dvd_of_emod_eq_zero h6))).symm
    · rw [if_pos (by omega)]
      have e3 : (-u) % n = n - u % n := by
        rw [t1_neg u n e1, Int.add_mul_emod_self_left, Int.emod_eq_of_lt (by omega) (by omega)]
      rw [e3]
      omega
theorem tmod_bound {v n : Int} (hn : 0 < n) : -n ≤ v.tmod n ∧ v.tmod n < n := by
  refine ⟨?_, Int.tmod_lt_of_pos v hn⟩
  have h1 := tmod_cases (v := v) hn
  have h2 := Int.emod_nonneg v (by omega : n ≠ 0)
  split at h1 <;> omega
def place (v n : Int) : Int := v % n
theorem place_lt {v n : Int} (hn : 0 < n) : 0 ≤ place v n ∧ place v n < n := ⟨Int.emod_nonneg v (by omega), Int.emod_lt_of_pos v hn⟩
theorem sp_place (h10 : F 10 = some A_xlaw00_Place) {v n : Int} (hn : 0 < n) (hb : n ≤ 4611686018427387904) : pureS F 10 [.i .i64 v, .i .i64 n] = some (.i .i64 (place v n)) := by
  refine pure_of h10 ?_
  have h1 := tmod_cases (v := v) hn
  obtain ⟨h2, h3⟩ := tmod_bound (v := v) hn
  unfold place
  by_cases h : v.tmod n < 0
  · have hw : IntKind.i64.wrap (v.tmod n + n) = v.tmod n + n := i64_wrap (by omega) (by omega)
    rw [if_pos h] at h1
    simp (disch := omega) only [A_xlaw00_Place, wp, Nat.reduceAdd, Nat.reduceMul, Nat.reduceSub, b_rem, h, hw]
    rw [h1]
  · rw [if_neg h] at h1
    simp (disch := omega) only [A_xlaw00_Place, wp, Nat.reduceAdd, Nat.reduceMul, Nat.reduceSub, b_rem, h]
    rw [h1]
end Go.Ab
end
section
set_option linter.unusedVariables false
set_option linter.unusedSimpArgs false
namespace Go.Ab
variable {F : Funs}
theorem ints_part {l : List Int} {k : Nat} (h : k < l.length) : part ((intsC l).drop (k * 1)) 0 none = some (.i .i64 (l.getD k 0)) := by
  simp only [part, intsC, List.getElem?_drop, Nat.mul_one, Nat.add_zero, List.getElem?_map, List.getElem?_eq_getElem h, Option.map_some, List.getD_eq_getElem?_getD, Option.getD_some]
theorem Steps'.mono {r s : Nat → Nat → Prop} (h : ∀ a b, r a b → s a b) {a b : Nat} (t : Steps' r a b) : Steps' s a b := by
  induction t with
  | one h' => exact .one (h _ _ h')
  | join _ _ i1 i2 => exact .join i1 i2
theorem Steps'.first {r : Nat → Nat → Prop} {a b : Nat} (t : Steps' r a b) : r a b ∨ ∃ c, r a c ∧ Steps' r c b := by
  induction t with
  | one h => exact .inl h
  | @join a c b t1 t2 i1 i2 =>
    rcases i1 with h | ⟨d, h1, h2⟩
    · exact .inr ⟨c, h, t2⟩
    · exact .inr ⟨d, h1, .join h2 t2⟩
end Go.Ab
end
section
set_option linter.unusedVariables false
set_option linter.unusedSimpArgs false
namespace Go.Ab
noncomputable def thawS (F : Funs) (f : Nat) (asx : List AV) : Option (List AV) := match callS F f asx g0 with
  | some (.mp b 0, g) => match g.hp b with
    | some (.cells cs false) => if cs.all flat then some cs else none
    | _ => none
  | _ => none
noncomputable def vThaw (F : Funs) (al : Nat → Bool) (id : Nat) (f : AV) (args : List AV) (g : G) : Option (AV × G) := vCall (callS F) al id .thaw f args g
theorem o_thaw {F : Funs} {al lo id e g} (f : Opd) (asx : List Opd) : opE (callS F) al lo id (.call .thaw f asx) e g = vThaw F al id (f.ev e) (asx.map (·.ev e)) g := rfl
theorem vis_flat {hp : Nat → Option Blk} {d : Nat} {v : AV} (h : flat v = true) : vis hp (d + 1) v = [] := by cases v <;> first | (cases h; done) | simp only [vis]
theorem vThaw_ok {F : Funs} {al : Nat → Bool} {id fid : Nat} {fst caps args bs cs : List AV} {g : G} (h1 : frzL (rd g al) depth (fst ++ args ++ caps) = some bs) (h2 : thawS F fid bs = some cs) (h3 : ((fst ++ args ++ caps).flatMap (vis (rd g al) depth)).isEmpty = true) :
    vThaw F al id (.fn fid fst caps) args g = some (.mp id 0, ⟨upd g.hp id (some (.cells cs false)), g.nx⟩) := by
  unfold thawS at h2
  split at h2
  · rename_i b g' hc
    split at h2
    · rename_i cs0 hb
      split at h2
      · rename_i hf
        cases h2
        have hc' : callS F fid bs ⟨fun _ => none, 0⟩ = some (.mp b 0, g') := hc
        have hfz : frzL g'.hp depth cs = some cs := frzL_flat (d := 8) hf
        have hv : cs.flatMap (vis g'.hp depth) = [] := by
          rw [List.flatMap_eq_nil_iff]
          intro v hv
          exact vis_flat (d := 8) (List.all_eq_true.1 hf v hv)
        unfold vThaw vCall
        simp only [h1, hc', hb, hfz, h3, hv]
        simp
      · cases h2
    · cases h2
  · cases h2
def retT (rs : List ARes) (cs : List AV) : Out → Env → G → Prop
  | .ext _, _, _ => False
  | _, e, g => ∃ b, resE rs e g = some (.mp b 0) ∧ g.hp b = some (.cells cs false)
theorem retT_nrm {rs cs e g} : retT rs cs .nrm e g = (∃ b, resE rs e g = some (.mp b 0) ∧ g.hp b = some (.cells cs false)) := rfl
theorem retT_ret {rs cs e g} : retT rs cs .ret e g = (∃ b, resE rs e g = some (.mp b 0) ∧ g.hp b = some (.cells cs false)) := rfl
section
variable {F : Funs}
theorem retT_call {f : Nat} {fn : AFun} {asx cs : List AV} (hF : F f = some fn) (h : W F fn.body (argEnv asx) g0 (retT fn.res cs)) : ∃ b g, callS F f asx g0 = some (.mp b 0, g) ∧ g.hp b = some (.cells cs false) := by
  obtain ⟨o, e, g, h1, h2⟩ := h
  rw [callS_eq, hF]
  simp only [h1]
  cases o with
  | ext n => exact h2.elim
  | nrm =>
    obtain ⟨b, h3, h4⟩ := h2
    exact ⟨b, g, by simp only [h3, Option.map_some], h4⟩
  | ret =>
    obtain ⟨b, h3, h4⟩ := h2
    exact ⟨b, g, by simp only [h3, Option.map_some], h4⟩
theorem thaw_of {f : Nat} {fn : AFun} {asx cs : List AV} (hF : F f = some fn) (hf : cs.all flat = true) (h : W F fn.body (argEnv asx) g0 (retT fn.res cs)) : thawS F f asx = some cs := by
  obtain ⟨b, g, h1, h2⟩ := retT_call hF h
  unfold thawS
  rw [h1]
  simp only [h2, hf, if_true]
theorem pure_of_thaw {f : Nat} {fn : AFun} {asx cs : List AV} (hF : F f = some fn) (hf : cs.all flat = true) (h : W F fn.body (argEnv asx) g0 (retT fn.res cs)) : pureS F f asx = some (.ptr cs) := by
  obtain ⟨b, g, h1, h2⟩ := retT_call hF h
  unfold pureS
  rw [h1]
  exact frz_d_mp h2 (frzL_flat hf)
end
theorem vThaw_S {F : Funs} {al : Nat → Bool} {id fid : Nat} {args : List AV} {g : G} {bs cs : List AV} (h1 : frzL (rd g al) depth args = some bs) (h2 : thawS F fid bs = some cs) (h3 : (args.flatMap (vis (rd g al) depth)) = []) :
    vThaw F al id (.fn fid [] []) args g = some (.mp id 0, ⟨upd g.hp id (some (.cells cs false)), g.nx⟩) :=
  vThaw_ok (by rw [List.nil_append, List.append_nil]; exact h1) h2 (by rw [List.nil_append, List.append_nil, h3]; rfl)
end Go.Ab
end
section
namespace Go.Ab
def A_xref01_New : AFun := { res := [.t 4], body := (.seq (.reg false [{ dst := some 4, op := .mv (.c (.nilp)) }])
 (.seq (.reg false [{ dst := some 9, op := .mv (.t 0) },
  { dst := some 10, op := .mx (.t 9) (.c (.i .i64 0)) },
  { dst := some 11, op := .mn (.t 10) (.c (.i .i64 40)) },
  { dst := some 12, op := .build ([.i .i64 0] ++ List.replicate 1600 (.b false)) [(0, 1, .t 11)] },
  { dst := some 13, op := .box (.t 12) },
  { dst := some 5, op := .mv (.t 13) }])
 (.seq (.seq (.reg false [{ dst := some 6, op := .mv (.c (.i .i64 0)) }])
 (.blk 0 (.loop (.seq (.seq (.reg false [{ dst := some 14, op := .mv (.t 6) },
  { dst := some 15, op := .mv (.t 1) },
  { dst := some 16, op := .len (.t 15) },
  { dst := some 17, op := .bin .lss (.t 14) (.t 16) }])
 (.cond (.t 17) .skip
 (.ext 0)))
 (.seq (.blk 1 (.seq (.reg true [{ dst := some 20, op := .mv (.t 1) },
  { dst := some 21, op := .mv (.t 6) },
  { dst := some 22, op := .ia 2 (.t 20) (.t 21) },
  { dst := some 23, op := .fa 0 (.t 22) },
  { dst := some 24, op := .ld none (.t 23), pre := [] },
  { dst := some 25, op := .mv (.t 1) },
  { dst := some 26, op := .mv (.t 6) },
  { dst := some 27, op := .ia 2 (.t 25) (.t 26) },
  { dst := some 28, op := .fa 1 (.t 27) },
  { dst := some 29, op := .ld none (.t 28), pre := [] },
  { dst := some 7, op := .mv (.t 24) },
  { dst := some 8, op := .mv (.t 29) }])
 (.seq (.reg false [{ dst := some 30, op := .mv (.t 7) },
  { dst := some 31, op := .bin .geq (.t 30) (.c (.i .i64 0)) },
  { dst := some 32, op := .mv (.t 31) },
  { dst := some 33, op := .mv (.t 8), grd := some (32, true) },
  { dst := some 34, op := .bin .geq (.t 33) (.c (.i .i64 0)), grd := some (32, true) },
  { dst := some 35, op := .pick (.t 32) (.t 34) (.c (.b false)) },
  { dst := some 36, op := .mv (.t 35) },
  { dst := some 37, op := .mv (.t 7), grd := some (36, true) },
  { dst := some 38, op := .mv (.t 5), grd := some (36, true) },
  { dst := some 39, op := .nilck (.t 38), grd := some (36, true) },
  { dst := some 40, op := .fa 0 (.t 39), grd := some (36, true) },
  { dst := some 41, op := .ld none (.t 40), grd := some (36, true) },
  { dst := some 42, op := .bin .lss (.t 37) (.t 41), grd := some (36, true) },
  { dst := some 43, op := .pick (.t 36) (.t 42) (.c (.b false)) },
  { dst := some 44, op := .mv (.t 43) },
  { dst := some 45, op := .mv (.t 8), grd := some (44, true) },
  { dst := some 46, op := .mv (.t 5), grd := some (44, true) },
  { dst := some 47, op := .nilck (.t 46), grd := some (44, true) },
  { dst := some 48, op := .fa 0 (.t 47), grd := some (44, true) },
  { dst := some 49, op := .ld none (.t 48), grd := some (44, true) },
  { dst := some 50, op := .bin .lss (.t 45) (.t 49), grd := some (44, true) },
  { dst := some 51, op := .pick (.t 44) (.t 50) (.c (.b false)) }])
 (.cond (.t 51) (.reg false [{ dst := some 52, op := .mv (.t 5) },
  { dst := some 53, op := .mv (.t 7) },
  { dst := some 54, op := .mv (.t 8) },
  { dst := some 55, op := .nilck (.t 52) },
  { dst := some 56, op := .fa 1 (.t 55) },
  { dst := some 57, op := .iaa 40 40 (.t 56) (.t 53) },
  { dst := some 58, op := .iaa 40 1 (.t 57) (.t 54) },
  { dst := none, op := .st 1 (.t 58) (.c (.b true)) }])
 .skip))))
 (.reg false [{ dst := some 18, op := .mv (.t 6) },
  { dst := some 19, op := .bin .add (.t 18) (.c (.i .i64 1)) },
  { dst := some 6, op := .mv (.t 19) }]))))))
 (.seq (.reg false [{ dst := some 59, op := .mv (.t 5) },
  { dst := some 4, op := .mv (.t 59) }])
 .ret)))) }
def A_xref01_R_Or : AFun := { res := [.t 4], body := (.seq (.reg false [{ dst := some 4, op := .mv (.c (.nilp)) }])
 (.seq (.reg true [{ dst := some 8, op := .mv (.t 0) },
  { dst := some 9, op := .nilck (.t 8) },
  { dst := some 10, op := .fa 0 (.t 9) },
  { dst := some 11, op := .ld none (.t 10), pre := [] },
  { dst := some 12, op := .mv (.t 1) },
  { dst := some 13, op := .nilck (.t 12) },
  { dst := some 14, op := .fa 0 (.t 13) },
  { dst := some 15, op := .ld none (.t 14), pre := [] },
  { dst := some 16, op := .mx (.t 11) (.t 15) },
  { dst := some 17, op := .call .thaw (.c (.fn 27 [] [])) [.t 16, .c (.sl [] 0 .rig)], pre := [] },
  { dst := some 5, op := .mv (.t 17) }])
 (.seq (.seq (.reg false [{ dst := some 6, op := .mv (.c (.i .i64 0)) }])
 (.blk 0 (.loop (.seq (.seq (.reg false [{ dst := some 18, op := .mv (.t 6) },
  { dst := some 19, op := .mv (.t 5) },
  { dst := some 20, op := .nilck (.t 19) },
  { dst := some 21, op := .fa 0 (.t 20) },
  { dst := some 22, op := .ld none (.t 21) },
  { dst := some 23, op := .bin .lss (.t 18) (.t 22) }])
 (.cond (.t 23) .skip
 (.ext 0)))
 (.seq (.blk 1 (.seq (.reg false [{ dst := some 7, op := .mv (.c (.i .i64 0)) }])
 (.blk 2 (.loop (.seq (.seq (.reg false [{ dst := some 26, op := .mv (.t 7) },
  { dst := some 27, op := .mv (.t 5) },
  { dst := some 28, op := .nilck (.t 27) },
  { dst := some 29, op := .fa 0 (.t 28) },
  { dst := some 30, op := .ld none (.t 29) },
  { dst := some 31, op := .bin .lss (.t 26) (.t 30) }])
 (.cond (.t 31) .skip
 (.ext 2)))
 (.seq (.blk 3 (.reg true [{ dst := some 34, op := .mv (.t 5) },
  { dst := some 35, op := .mv (.t 6) },
  { dst := some 36, op := .mv (.t 7) },
  { dst := some 37, op := .mv (.t 0) },
  { dst := some 38, op := .mv (.t 6) },
  { dst := some 39, op := .mv (.t 7) },
  { dst := some 40, op := .nilck (.t 37) },
  { dst := some 41, op := .fa 1 (.t 40) },
  { dst := some 42, op := .iaa 40 40 (.t 41) (.t 38) },
  { dst := some 43, op := .iaa 40 1 (.t 42) (.t 39) },
  { dst := some 44, op := .ld none (.t 43), pre := [] },
  { dst := some 45, op := .mv (.t 44) },
  { dst := some 46, op := .mv (.t 1), grd := some (45, false) },
  { dst := some 47, op := .mv (.t 6), grd := some (45, false) },
  { dst := some 48, op := .mv (.t 7), grd := some (45, false) },
  { dst := some 49, op := .nilck (.t 46), grd := some (45, false) },
  { dst := some 50, op := .fa 1 (.t 49), grd := some (45, false) },
  { dst := some 51, op := .iaa 40 40 (.t 50) (.t 47), grd := some (45, false) },
  { dst := some 52, op := .iaa 40 1 (.t 51) (.t 48), grd := some (45, false) },
  { dst := some 53, op := .ld none (.t 52), grd := some (45, false), pre := [] },
  { dst := some 54, op := .pick (.t 45) (.c (.b true)) (.t 53) },
  { dst := some 55, op := .nilck (.t 34) },
  { dst := some 56, op := .fa 1 (.t 55) },
  { dst := some 57, op := .iaa 40 40 (.t 56) (.t 35) },
  { dst := some 58, op := .iaa 40 1 (.t 57) (.t 36) },
  { dst := none, op := .st 1 (.t 58) (.t 54), pre := [] }]))
 (.reg false [{ dst := some 32, op := .mv (.t 7) },
  { dst := some 33, op := .bin .add (.t 32) (.c (.i .i64 1)) },
  { dst := some 7, op := .mv (.t 33) }])))))))
 (.reg false [{ dst := some 24, op := .mv (.t 6) },
  { dst := some 25, op := .bin .add (.t 24) (.c (.i .i64 1)) },
  { dst := some 6, op := .mv (.t 25) }]))))))
 (.seq (.reg false [{ dst := some 59, op := .mv (.t 5) },
  { dst := some 4, op := .mv (.t 59) }])
 .ret)))) }
def A_xref01_R_And : AFun := { res := [.t 4], body := (.seq (.reg false [{ dst := some 4, op := .mv (.c (.nilp)) }])
 (.seq (.reg true [{ dst := some 8, op := .mv (.t 0) },
  { dst := some 9, op := .nilck (.t 8) },
  { dst := some 10, op := .fa 0 (.t 9) },
  { dst := some 11, op := .ld none (.t 10), pre := [] },
  { dst := some 12, op := .mv (.t 1) },
  { dst := some 13, op := .nilck (.t 12) },
  { dst := some 14, op := .fa 0 (.t 13) },
  { dst := some 15, op := .ld none (.t 14), pre := [] },
  { dst := some 16, op := .mx (.t 11) (.t 15) },
  { dst := some 17, op := .call .thaw (.c (.fn 27 [] [])) [.t 16, .c (.sl [] 0 .rig)], pre := [] },
  { dst := some 5, op := .mv (.t 17) }])
 (.seq (.seq (.reg false [{ dst := some 6, op := .mv (.c (.i .i64 0)) }])
 (.blk 0 (.loop (.seq (.seq (.reg false [{ dst := some 18, op := .mv (.t 6) },
  { dst := some 19, op := .mv (.t 5) },
  { dst := some 20, op := .nilck (.t 19) },
  { dst := some 21, op := .fa 0 (.t 20) },
  { dst := some 22, op := .ld none (.t 21) },
  { dst := some 23, op := .bin .lss (.t 18) (.t 22) }])
 (.cond (.t 23) .skip
 (.ext 0)))
 (.seq (.blk 1 (.seq (.reg false [{ dst := some 7, op := .mv (.c (.i .i64 0)) }])
 (.blk 2 (.loop (.seq (.seq (.reg false [{ dst := some 26, op := .mv (.t 7) },
  { dst := some 27, op := .mv (.t 5) },
  { dst := some 28, op := .nilck (.t 27) },
  { dst := some 29, op := .fa 0 (.t 28) },
  { dst := some 30, op := .ld none (.t 29) },
  { dst := some 31, op := .bin .lss (.t 26) (.t 30) }])
 (.cond (.t 31) .skip
 (.ext 2)))
 (.seq (.blk 3 (.reg true [{ dst := some 34, op := .mv (.t 5) },
  { dst := some 35, op := .mv (.t 6) },
  { dst := some 36, op := .mv (.t 7) },
  { dst := some 37, op := .mv (.t 0) },
  { dst := some 38, op := .mv (.t 6) },
  { dst := some 39, op := .mv (.t 7) },
  { dst := some 40, op := .nilck (.t 37) },
  { dst := some 41, op := .fa 1 (.t 40) },
  { dst := some 42, op := .iaa 40 40 (.t 41) (.t 38) },
  { dst := some 43, op := .iaa 40 1 (.t 42) (.t 39) },
  { dst := some 44, op := .ld none (.t 43), pre := [] },
  { dst := some 45, op := .mv (.t 44) },
  { dst := some 46, op := .mv (.t 1), grd := some (45, true) },
  { dst := some 47, op := .mv (.t 6), grd := some (45, true) },
  { dst := some 48, op := .mv (.t 7), grd := some (45, true) },
  { dst := some 49, op := .nilck (.t 46), grd := some (45, true) },
  { dst := some 50, op := .fa 1 (.t 49), grd := some (45, true) },
  { dst := some 51, op := .iaa 40 40 (.t 50) (.t 47), grd := some (45, true) },
  { dst := some 52, op := .iaa 40 1 (.t 51) (.t 48), grd := some (45, true) },
  { dst := some 53, op := .ld none (.t 52), grd := some (45, true), pre := [] },
  { dst := some 54, op := .pick (.t 45) (.t 53) (.c (.b false)) },
  { dst := some 55, op := .nilck (.t 34) },
  { dst := some 56, op := .fa 1 (.t 55) },
  { dst := some 57, op := .iaa 40 40 (.t 56) (.t 35) },
  { dst := some 58, op := .iaa 40 1 (.t 57) (.t 36) },
  { dst := none, op := .st 1 (.t 58) (.t 54), pre := [] }]))
 (.reg false [{ dst := some 32, op := .mv (.t 7) },
  { dst := some 33, op := .bin .add (.t 32) (.c (.i .i64 1)) },
  { dst := some 7, op := .mv (.t 33) }])))))))
 (.reg false [{ dst := some 24, op := .mv (.t 6) },
  { dst := some 25, op := .bin .add (.t 24) (.c (.i .i64 1)) },
  { dst := some 6, op := .mv (.t 25) }]))))))
 (.seq (.reg false [{ dst := some 59, op := .mv (.t 5) },
  { dst := some 4, op := .mv (.t 59) }])
 .ret)))) }
def A_xref01_R_Then : AFun := { res := [.t 4], body := (.seq (.reg false [{ dst := some 4, op := .mv (.c (.nilp)) }])
 (.seq (.reg true [{ dst := some 9, op := .mv (.t 0) },
  { dst := some 10, op := .nilck (.t 9) },
  { dst := some 11, op := .fa 0 (.t 10) },
  { dst := some 12, op := .ld none (.t 11), pre := [] },
  { dst := some 13, op := .mv (.t 1) },
  { dst := some 14, op := .nilck (.t 13) },
  { dst := some 15, op := .fa 0 (.t 14) },
  { dst := some 16, op := .ld none (.t 15), pre := [] },
  { dst := some 17, op := .mx (.t 12) (.t 16) },
  { dst := some 18, op := .call .thaw (.c (.fn 27 [] [])) [.t 17, .c (.sl [] 0 .rig)], pre := [] },
  { dst := some 5, op := .mv (.t 18) }])
 (.seq (.seq (.reg false [{ dst := some 6, op := .mv (.c (.i .i64 0)) }])
 (.blk 0 (.loop (.seq (.seq (.reg false [{ dst := some 19, op := .mv (.t 6) },
  { dst := some 20, op := .mv (.t 5) },
  { dst := some 21, op := .nilck (.t 20) },
  { dst := some 22, op := .fa 0 (.t 21) },
  { dst := some 23, op := .ld none (.t 22) },
  { dst := some 24, op := .bin .lss (.t 19) (.t 23) }])
 (.cond (.t 24) .skip
 (.ext 0)))
 (.seq (.blk 1 (.seq (.reg false [{ dst := some 7, op := .mv (.c (.i .i64 0)) }])
 (.blk 2 (.loop (.seq (.seq (.reg false [{ dst := some 27, op := .mv (.t 7) },
  { dst := some 28, op := .mv (.t 5) },
  { dst := some 29, op := .nilck (.t 28) },
  { dst := some 30, op := .fa 0 (.t 29) },
  { dst := some 31, op := .ld none (.t 30) },
  { dst := some 32, op := .bin .lss (.t 27) (.t 31) }])
 (.cond (.t 32) .skip
 (.ext 2)))
 (.seq (.blk 3 (.seq (.reg false [{ dst := some 8, op := .mv (.c (.i .i64 0)) }])
 (.blk 4 (.loop (.seq (.seq (.reg false [{ dst := some 35, op := .mv (.t 8) },
  { dst := some 36, op := .mv (.t 5) },
  { dst := some 37, op := .nilck (.t 36) },
  { dst := some 38, op := .fa 0 (.t 37) },
  { dst := some 39, op := .ld none (.t 38) },
  { dst := some 40, op := .bin .lss (.t 35) (.t 39) },
  { dst := some 41, op := .mv (.t 40) },
  { dst := some 42, op := .mv (.t 0), grd := some (41, true) },
  { dst := some 43, op := .mv (.t 6), grd := some (41, true) },
  { dst := some 44, op := .mv (.t 7), grd := some (41, true) },
  { dst := some 45, op := .nilck (.t 42), grd := some (41, true) },
  { dst := some 46, op := .fa 1 (.t 45), grd := some (41, true) },
  { dst := some 47, op := .iaa 40 40 (.t 46) (.t 43), grd := some (41, true) },
  { dst := some 48, op := .iaa 40 1 (.t 47) (.t 44), grd := some (41, true) },
  { dst := some 49, op := .ld none (.t 48), grd := some (41, true) },
  { dst := some 50, op := .pick (.t 41) (.t 49) (.c (.b false)) }])
 (.cond (.t 50) .skip
 (.ext 4)))
 (.seq (.blk 5 (.reg true [{ dst := some 53, op := .mv (.t 5) },
  { dst := some 54, op := .mv (.t 6) },
  { dst := some 55, op := .mv (.t 8) },
  { dst := some 56, op := .mv (.t 5) },
  { dst := some 57, op := .mv (.t 6) },
  { dst := some 58, op := .mv (.t 8) },
  { dst := some 59, op := .nilck (.t 56) },
  { dst := some 60, op := .fa 1 (.t 59) },
  { dst := some 61, op := .iaa 40 40 (.t 60) (.t 57) },
  { dst := some 62, op := .iaa 40 1 (.t 61) (.t 58) },
  { dst := some 63, op := .ld none (.t 62), pre := [] },
  { dst := some 64, op := .mv (.t 63) },
  { dst := some 65, op := .mv (.t 1), grd := some (64, false) },
  { dst := some 66, op := .mv (.t 7), grd := some (64, false) },
  { dst := some 67, op := .mv (.t 8), grd := some (64, false) },
  { dst := some 68, op := .nilck (.t 65), grd := some (64, false) },
  { dst := some 69, op := .fa 1 (.t 68), grd := some (64, false) },
  { dst := some 70, op := .iaa 40 40 (.t 69) (.t 66), grd := some (64, false) },
  { dst := some 71, op := .iaa 40 1 (.t 70) (.t 67), grd := some (64, false) },
  { dst := some 72, op := .ld none (.t 71), grd := some (64, false), pre := [] },
  { dst := some 73, op := .pick (.t 64) (.c (.b true)) (.t 72) },
  { dst := some 74, op := .nilck (.t 53) },
  { dst := some 75, op := .fa 1 (.t 74) },
  { dst := some 76, op := .iaa 40 40 (.t 75) (.t 54) },
  { dst := some 77, op := .iaa 40 1 (.t 76) (.t 55) },
  { dst := none, op := .st 1 (.t 77) (.t 73), pre := [] }]))
 (.reg false [{ dst := some 51, op := .mv (.t 8) },
  { dst := some 52, op := .bin .add (.t 51) (.c (.i .i64 1)) },
  { dst := some 8, op := .mv (.t 52) }])))))))
 (.reg false [{ dst := some 33, op := .mv (.t 7) },
  { dst := some 34, op := .bin .add (.t 33) (.c (.i .i64 1)) },
  { dst := some 7, op := .mv (.t 34) }])))))))
 (.reg false [{ dst := some 25, op := .mv (.t 6) },
  { dst := some 26, op := .bin .add (.t 25) (.c (.i .i64 1)) },
  { dst := some 6, op := .mv (.t 26) }]))))))
 (.seq (.reg false [{ dst := some 78, op := .mv (.t 5) },
  { dst := some 4, op := .mv (.t 78) }])
 .ret)))) }
def A_xref01_R_Back : AFun := { res := [.t 2], body := (.seq (.reg false [{ dst := some 2, op := .mv (.c (.nilp)) }])
 (.seq (.reg false [{ dst := some 6, op := .mv (.t 0) },
  { dst := some 7, op := .nilck (.t 6) },
  { dst := some 8, op := .fa 0 (.t 7) },
  { dst := some 9, op := .ld none (.t 8) },
  { dst := some 10, op := .call .thaw (.c (.fn 27 [] [])) [.t 9, .c (.sl [] 0 .rig)] },
  { dst := some 3, op := .mv (.t 10) }])
 (.seq (.seq (.reg false [{ dst := some 4, op := .mv (.c (.i .i64 0)) }])
 (.blk 0 (.loop (.seq (.seq (.reg false [{ dst := some 11, op := .mv (.t 4) },
  { dst := some 12, op := .mv (.t 3) },
  { dst := some 13, op := .nilck (.t 12) },
  { dst := some 14, op := .fa 0 (.t 13) },
  { dst := some 15, op := .ld none (.t 14) },
  { dst := some 16, op := .bin .lss (.t 11) (.t 15) }])
 (.cond (.t 16) .skip
 (.ext 0)))
 (.seq (.blk 1 (.seq (.reg false [{ dst := some 5, op := .mv (.c (.i .i64 0)) }])
 (.blk 2 (.loop (.seq (.seq (.reg false [{ dst := some 19, op := .mv (.t 5) },
  { dst := some 20, op := .mv (.t 3) },
  { dst := some 21, op := .nilck (.t 20) },
  { dst := some 22, op := .fa 0 (.t 21) },
  { dst := some 23, op := .ld none (.t 22) },
  { dst := some 24, op := .bin .lss (.t 19) (.t 23) }])
 (.cond (.t 24) .skip
 (.ext 2)))
 (.seq (.blk 3 (.reg true [{ dst := some 27, op := .mv (.t 3) },
  { dst := some 28, op := .mv (.t 5) },
  { dst := some 29, op := .mv (.t 4) },
  { dst := some 30, op := .mv (.t 0) },
  { dst := some 31, op := .mv (.t 4) },
  { dst := some 32, op := .mv (.t 5) },
  { dst := some 33, op := .nilck (.t 30) },
  { dst := some 34, op := .fa 1 (.t 33) },
  { dst := some 35, op := .iaa 40 40 (.t 34) (.t 31) },
  { dst := some 36, op := .iaa 40 1 (.t 35) (.t 32) },
  { dst := some 37, op := .ld none (.t 36), pre := [] },
  { dst := some 38, op := .nilck (.t 27) },
  { dst := some 39, op := .fa 1 (.t 38) },
  { dst := some 40, op := .iaa 40 40 (.t 39) (.t 28) },
  { dst := some 41, op := .iaa 40 1 (.t 40) (.t 29) },
  { dst := none, op := .st 1 (.t 41) (.t 37), pre := [] }]))
 (.reg false [{ dst := some 25, op := .mv (.t 5) },
  { dst := some 26, op := .bin .add (.t 25) (.c (.i .i64 1)) },
  { dst := some 5, op := .mv (.t 26) }])))))))
 (.reg false [{ dst := some 17, op := .mv (.t 4) },
  { dst := some 18, op := .bin .add (.t 17) (.c (.i .i64 1)) },
  { dst := some 4, op := .mv (.t 18) }]))))))
 (.seq (.reg false [{ dst := some 42, op := .mv (.t 3) },
  { dst := some 2, op := .mv (.t 42) }])
 .ret)))) }
def A_xref01_R_Plus : AFun := { res := [.t 2], body := (.seq (.reg false [{ dst := some 2, op := .mv (.c (.nilp)) }])
 (.seq (.reg false [{ dst := some 7, op := .mv (.t 0) },
  { dst := some 8, op := .nilck (.t 7) },
  { dst := some 9, op := .fa 0 (.t 8) },
  { dst := some 10, op := .ld none (.t 9) },
  { dst := some 11, op := .call .thaw (.c (.fn 27 [] [])) [.t 10, .c (.sl [] 0 .rig)] },
  { dst := some 3, op := .mv (.t 11) }])
 (.seq (.reg false [{ dst := some 12, op := .mv (.t 3) },
  { dst := some 13, op := .mv (.t 0) },
  { dst := some 14, op := .nilck (.t 13) },
  { dst := some 15, op := .fa 1 (.t 14) },
  { dst := some 16, op := .ld (some 1600) (.t 15) },
  { dst := some 17, op := .nilck (.t 12) },
  { dst := some 18, op := .fa 1 (.t 17) },
  { dst := none, op := .st 1600 (.t 18) (.t 16) }])
 (.seq (.seq (.reg false [{ dst := some 4, op := .mv (.c (.i .i64 0)) }])
 (.blk 0 (.loop (.seq (.seq (.reg false [{ dst := some 19, op := .mv (.t 4) },
  { dst := some 20, op := .mv (.t 3) },
  { dst := some 21, op := .nilck (.t 20) },
  { dst := some 22, op := .fa 0 (.t 21) },
  { dst := some 23, op := .ld none (.t 22) },
  { dst := some 24, op := .bin .lss (.t 19) (.t 23) }])
 (.cond (.t 24) .skip
 (.ext 0)))
 (.seq (.blk 1 (.seq (.reg false [{ dst := some 5, op := .mv (.c (.i .i64 0)) }])
 (.blk 2 (.loop (.seq (.seq (.reg false [{ dst := some 27, op := .mv (.t 5) },
  { dst := some 28, op := .mv (.t 3) },
  { dst := some 29, op := .nilck (.t 28) },
  { dst := some 30, op := .fa 0 (.t 29) },
  { dst := some 31, op := .ld none (.t 30) },
  { dst := some 32, op := .bin .lss (.t 27) (.t 31) }])
 (.cond (.t 32) .skip
 (.ext 2)))
 (.seq (.blk 3 (.seq (.reg false [{ dst := some 6, op := .mv (.c (.i .i64 0)) }])
 (.blk 4 (.loop (.seq (.seq (.reg false [{ dst := some 35, op := .mv (.t 6) },
  { dst := some 36, op := .mv (.t 3) },
  { dst := some 37, op := .nilck (.t 36) },
  { dst := some 38, op := .fa 0 (.t 37) },
  { dst := some 39, op := .ld none (.t 38) },
  { dst := some 40, op := .bin .lss (.t 35) (.t 39) },
  { dst := some 41, op := .mv (.t 40) },
  { dst := some 42, op := .mv (.t 3), grd := some (41, true) },
  { dst := some 43, op := .mv (.t 5), grd := some (41, true) },
  { dst := some 44, op := .mv (.t 4), grd := some (41, true) },
  { dst := some 45, op := .nilck (.t 42), grd := some (41, true) },
  { dst := some 46, op := .fa 1 (.t 45), grd := some (41, true) },
  { dst := some 47, op := .iaa 40 40 (.t 46) (.t 43), grd := some (41, true) },
  { dst := some 48, op := .iaa 40 1 (.t 47) (.t 44), grd := some (41, true) },
  { dst := some 49, op := .ld none (.t 48), grd := some (41, true) },
  { dst := some 50, op := .pick (.t 41) (.t 49) (.c (.b false)) }])
 (.cond (.t 50) .skip
 (.ext 4)))
 (.seq (.blk 5 (.reg true [{ dst := some 53, op := .mv (.t 3) },
  { dst := some 54, op := .mv (.t 5) },
  { dst := some 55, op := .mv (.t 6) },
  { dst := some 56, op := .mv (.t 3) },
  { dst := some 57, op := .mv (.t 5) },
  { dst := some 58, op := .mv (.t 6) },
  { dst := some 59, op := .nilck (.t 56) },
  { dst := some 60, op := .fa 1 (.t 59) },
  { dst := some 61, op := .iaa 40 40 (.t 60) (.t 57) },
  { dst := some 62, op := .iaa 40 1 (.t 61) (.t 58) },
  { dst := some 63, op := .ld none (.t 62), pre := [] },
  { dst := some 64, op := .mv (.t 63) },
  { dst := some 65, op := .mv (.t 3), grd := some (64, false) },
  { dst := some 66, op := .mv (.t 4), grd := some (64, false) },
  { dst := some 67, op := .mv (.t 6), grd := some (64, false) },
  { dst := some 68, op := .nilck (.t 65), grd := some (64, false) },
  { dst := some 69, op := .fa 1 (.t 68), grd := some (64, false) },
  { dst := some 70, op := .iaa 40 40 (.t 69) (.t 66), grd := some (64, false) },
  { dst := some 71, op := .iaa 40 1 (.t 70) (.t 67), grd := some (64, false) },
  { dst := some 72, op := .ld none (.t 71), grd := some (64, false), pre := [] },
  { dst := some 73, op := .pick (.t 64) (.c (.b true)) (.t 72) },
  { dst := some 74, op := .nilck (.t 53) },
  { dst := some 75, op := .fa 1 (.t 74) },
  { dst := some 76, op := .iaa 40 40 (.t 75) (.t 54) },
  { dst := some 77, op := .iaa 40 1 (.t 76) (.t 55) },
  { dst := none, op := .st 1 (.t 77) (.t 73), pre := [] }]))
 (.reg false [{ dst := some 51, op := .mv (.t 6) },
  { dst := some 52, op := .bin .add (.t 51) (.c (.i .i64 1)) },
  { dst := some 6, op := .mv (.t 52) }])))))))
 (.reg false [{ dst := some 33, op := .mv (.t 5) },
  { dst := some 34, op := .bin .add (.t 33) (.c (.i .i64 1)) },
  { dst := some 5, op := .mv (.t 34) }])))))))
 (.reg false [{ dst := some 25, op := .mv (.t 4) },
  { dst := some 26, op := .bin .add (.t 25) (.c (.i .i64 1)) },
  { dst := some 4, op := .mv (.t 26) }]))))))
 (.seq (.reg false [{ dst := some 78, op := .mv (.t 3) },
  { dst := some 2, op := .mv (.t 78) }])
 .ret))))) }
def A_xref01_R_Maybe : AFun := { res := [.t 2], body := (.seq (.reg false [{ dst := some 2, op := .mv (.c (.nilp)) }])
 (.seq (.reg false [{ dst := some 5, op := .mv (.t 0) },
  { dst := some 6, op := .nilck (.t 5) },
  { dst := some 7, op := .fa 0 (.t 6) },
  { dst := some 8, op := .ld none (.t 7) },
  { dst := some 9, op := .call .thaw (.c (.fn 27 [] [])) [.t 8, .c (.sl [] 0 .rig)] },
  { dst := some 3, op := .mv (.t 9) }])
 (.seq (.reg false [{ dst := some 10, op := .mv (.t 3) },
  { dst := some 11, op := .mv (.t 0) },
  { dst := some 12, op := .nilck (.t 11) },
  { dst := some 13, op := .fa 1 (.t 12) },
  { dst := some 14, op := .ld (some 1600) (.t 13) },
  { dst := some 15, op := .nilck (.t 10) },
  { dst := some 16, op := .fa 1 (.t 15) },
  { dst := none, op := .st 1600 (.t 16) (.t 14) }])
 (.seq (.seq (.reg false [{ dst := some 4, op := .mv (.c (.i .i64 0)) }])
 (.blk 0 (.loop (.seq (.seq (.reg false [{ dst := some 17, op := .mv (.t 4) },
  { dst := some 18, op := .mv (.t 3) },
  { dst := some 19, op := .nilck (.t 18) },
  { dst := some 20, op := .fa 0 (.t 19) },
  { dst := some 21, op := .ld none (.t 20) },
  { dst := some 22, op := .bin .lss (.t 17) (.t 21) }])
 (.cond (.t 22) .skip
 (.ext 0)))
 (.seq (.blk 1 (.reg false [{ dst := some 25, op := .mv (.t 3) },
  { dst := some 26, op := .mv (.t 4) },
  { dst := some 27, op := .mv (.t 4) },
  { dst := some 28, op := .nilck (.t 25) },
  { dst := some 29, op := .fa 1 (.t 28) },
  { dst := some 30, op := .iaa 40 40 (.t 29) (.t 26) },
  { dst := some 31, op := .iaa 40 1 (.t 30) (.t 27) },
  { dst := none, op := .st 1 (.t 31) (.c (.b true)) }]))
 (.reg false [{ dst := some 23, op := .mv (.t 4) },
  { dst := some 24, op := .bin .add (.t 23) (.c (.i .i64 1)) },
  { dst := some 4, op := .mv (.t 24) }]))))))
 (.seq (.reg false [{ dst := some 32, op := .mv (.t 3) },
  { dst := some 2, op := .mv (.t 32) }])
 .ret))))) }
def A_xref01_SamePairs : AFun := { res := [.t 4], body := (.seq (.reg false [{ dst := some 4, op := .mv (.c (.b false)) }])
 (.seq (.seq (.reg false [{ dst := some 6, op := .mv (.t 0) },
  { dst := some 7, op := .len (.t 6) },
  { dst := some 8, op := .mv (.t 1) },
  { dst := some 9, op := .len (.t 8) },
  { dst := some 10, op := .bin .neq (.t 7) (.t 9) }])
 (.cond (.t 10) (.seq (.reg false [{ dst := some 4, op := .mv (.c (.b false)) }])
 .ret)
 .skip))
 (.seq (.seq (.reg false [{ dst := some 5, op := .mv (.c (.i .i64 0)) }])
 (.blk 0 (.loop (.seq (.seq (.reg false [{ dst := some 11, op := .mv (.t 5) },
  { dst := some 12, op := .mv (.t 0) },
  { dst := some 13, op := .len (.t 12) },
  { dst := some 14, op := .bin .lss (.t 11) (.t 13) }])
 (.cond (.t 14) .skip
 (.ext 0)))
 (.seq (.blk 1 (.seq (.reg true [{ dst := some 17, op := .mv (.t 0) },
  { dst := some 18, op := .mv (.t 5) },
  { dst := some 19, op := .ia 2 (.t 17) (.t 18) },
  { dst := some 20, op := .fa 0 (.t 19) },
  { dst := some 21, op := .ld none (.t 20), pre := [] },
  { dst := some 22, op := .mv (.t 1) },
  { dst := some 23, op := .mv (.t 5) },
  { dst := some 24, op := .ia 2 (.t 22) (.t 23) },
  { dst := some 25, op := .fa 0 (.t 24) },
  { dst := some 26, op := .ld none (.t 25), pre := [] },
  { dst := some 27, op := .bin .neq (.t 21) (.t 26) },
  { dst := some 28, op := .mv (.t 27) },
  { dst := some 29, op := .mv (.t 0), grd := some (28, false) },
  { dst := some 30, op := .mv (.t 5), grd := some (28, false) },
  { dst := some 31, op := .ia 2 (.t 29) (.t 30), grd := some (28, false) },
  { dst := some 32, op := .fa 1 (.t 31), grd := some (28, false) },
  { dst := some 33, op := .ld none (.t 32), grd := some (28, false), pre := [] },
  { dst := some 34, op := .mv (.t 1), grd := some (28, false) },
  { dst := some 35, op := .mv (.t 5), grd := some (28, false) },
  { dst := some 36, op := .ia 2 (.t 34) (.t 35), grd := some (28, false) },
  { dst := some 37, op := .fa 1 (.t 36), grd := some (28, false) },
  { dst := some 38, op := .ld none (.t 37), grd := some (28, false), pre := [] },
  { dst := some 39, op := .bin .neq (.t 33) (.t 38), grd := some (28, false) },
  { dst := some 40, op := .pick (.t 28) (.c (.b true)) (.t 39) }])
 (.cond (.t 40) (.seq (.reg false [{ dst := some 4, op := .mv (.c (.b false)) }])
 .ret)
 .skip)))
 (.reg false [{ dst := some 15, op := .mv (.t 5) },
  { dst := some 16, op := .bin .add (.t 15) (.c (.i .i64 1)) },
  { dst := some 5, op := .mv (.t 16) }]))))))
 (.seq (.reg false [{ dst := some 4, op := .mv (.c (.b true)) }])
 .ret)))) }
def A_xref01_R_Pairs : AFun := { res := [.t 2], body := (.seq (.reg false [{ dst := some 2, op := .mv (.c (.sl [] 0 .rig)) }])
 (.seq (.reg false [{ dst := some 3, op := .mv (.c (.sl [] 0 .rig)) }])
 (.seq (.seq (.reg false [{ dst := some 4, op := .mv (.c (.i .i64 0)) }])
 (.blk 0 (.loop (.seq (.seq (.reg false [{ dst := some 6, op := .mv (.t 4) },
  { dst := some 7, op := .mv (.t 0) },
  { dst := some 8, op := .nilck (.t 7) },
  { dst := some 9, op := .fa 0 (.t 8) },
  { dst := some 10, op := .ld none (.t 9) },
  { dst := some 11, op := .bin .lss (.t 6) (.t 10) }])
 (.cond (.t 11) .skip
 (.ext 0)))
 (.seq (.blk 1 (.seq (.reg false [{ dst := some 5, op := .mv (.c (.i .i64 0)) }])
 (.blk 2 (.loop (.seq (.seq (.reg false [{ dst := some 14, op := .mv (.t 5) },
  { dst := some 15, op := .mv (.t 0) },
  { dst := some 16, op := .nilck (.t 15) },
  { dst := some 17, op := .fa 0 (.t 16) },
  { dst := some 18, op := .ld none (.t 17) },
  { dst := some 19, op := .bin .lss (.t 14) (.t 18) }])
 (.cond (.t 19) .skip
 (.ext 2)))
 (.seq (.blk 3 (.seq (.reg false [{ dst := some 22, op := .mv (.t 0) },
  { dst := some 23, op := .mv (.t 4) },
  { dst := some 24, op := .mv (.t 5) },
  { dst := some 25, op := .nilck (.t 22) },
  { dst := some 26, op := .fa 1 (.t 25) },
  { dst := some 27, op := .iaa 40 40 (.t 26) (.t 23) },
  { dst := some 28, op := .iaa 40 1 (.t 27) (.t 24) },
  { dst := some 29, op := .ld none (.t 28) }])
 (.cond (.t 29) (.reg false [{ dst := some 30, op := .mv (.t 3) },
  { dst := some 31, op := .mv (.t 4) },
  { dst := some 32, op := .mv (.t 5) },
  { dst := some 33, op := .build ([.i .i64 0, .i .i64 0]) [(0, 1, .t 31), (1, 1, .t 32)] },
  { dst := some 34, op := .bsl true 1 ([.i .i64 0, .i .i64 0]) [(0, 2, .t 33)] },
  { dst := some 35, op := .app 2 16 (.t 30) (.t 34) },
  { dst := some 3, op := .mv (.t 35) }])
 .skip)))
 (.reg false [{ dst := some 20, op := .mv (.t 5) },
  { dst := some 21, op := .bin .add (.t 20) (.c (.i .i64 1)) },
  { dst := some 5, op := .mv (.t 21) }])))))))
 (.reg false [{ dst := some 12, op := .mv (.t 4) },
  { dst := some 13, op := .bin .add (.t 12) (.c (.i .i64 1)) },
  { dst := some 4, op := .mv (.t 13) }]))))))
 (.seq (.reg false [{ dst := some 36, op := .mv (.t 3) },
  { dst := some 2, op := .mv (.t 36) }])
 .ret)))) }
def A_xref01_R_Star : AFun := { res := [.t 2], body := (.seq (.reg false [{ dst := some 2, op := .mv (.c (.nilp)) }])
 (.seq (.reg false [{ dst := some 3, op := .mv (.t 0) },
  { dst := some 4, op := .call .pure (.c (.fn 34 [] [])) [.t 3] },
  { dst := some 5, op := .call .pure (.c (.fn 35 [] [])) [.t 4] },
  { dst := some 2, op := .mv (.t 5) }])
 .ret)) }
structure Pk_xref01 (F : Funs) : Prop where
  xref01_New : F 27 = some A_xref01_New
  xref01_R_Or : F 29 = some A_xref01_R_Or
  xref01_R_And : F 30 = some A_xref01_R_And
  xref01_R_Then : F 32 = some A_xref01_R_Then
  xref01_R_Back : F 33 = some A_xref01_R_Back
  xref01_R_Plus : F 34 = some A_xref01_R_Plus
  xref01_R_Maybe : F 35 = some A_xref01_R_Maybe
  xref01_SamePairs : F 55 = some A_xref01_SamePairs
  xref01_R_Pairs : F 56 = some A_xref01_R_Pairs
end Go.Ab
end
section
set_option linter.unusedVariables false
set_option linter.unusedSimpArgs false
namespace Go.Ab
abbrev Mx := Nat → Nat → Bool
def matR (M : Mx) : List AV := (List.range 1600).map fun i => .b (M (i / 40) (i % 40))
def matC (n : Nat) (M : Mx) : List AV := .i .i64 n :: matR M
theorem matR_len (M : Mx) : (matR M).length = 1600 := by simp [matR]
theorem matC_len (n : Nat) (M : Mx) : (matC n M).length = 1601 := by simp [matC, matR_len]
theorem matR_get {M : Mx} {a b : Nat} (ha : a < 40) (hb : b < 40) : (matR M)[a * 40 + b]? = some (.b (M a b)) := by
  have h : a * 40 + b < 1600 := by omega
  simp only [matR, List.getElem?_map, List.getElem?_range h, Option.map_some]
  rw [show (a * 40 + b) / 40 = a by omega, show (a * 40 + b) % 40 = b by omega]
theorem matC_n (n : Nat) (M : Mx) : part (matC n M) 0 none = some (.i .i64 n) := rfl
theorem matC_drop1 (n : Nat) (M : Mx) : (matC n M).drop 1 = matR M := rfl
theorem matC_at {n : Nat} {M : Mx} {a b : Nat} (h : a < 40 ∧ b < 40) : part (matC n M) (0 + 1 + a * 40 + b * 1) none = some (.b (M a b)) := by
  rw [show 0 + 1 + a * 40 + b * 1 = (a * 40 + b) + 1 by omega]
  simp only [part, matC, List.getElem?_cons_succ, matR_get h.1 h.2]
theorem matR_at {M : Mx} {a b : Nat} (h : a < 40 ∧ b < 40) : part (((matR M).drop (a * 40)).drop (b * 1)) 0 none = some (.b (M a b)) := by
  simp only [part, List.getElem?_drop, Nat.mul_one, Nat.add_zero, matR_get h.1 h.2]
def upd2 (M : Mx) (a b : Nat) (x : Bool) : Mx := fun i j => if i = a ∧ j = b then x else M i j
theorem matC_set {n : Nat} {M : Mx} {a b : Nat} {x : Bool} (h : a < 40 ∧ b < 40) : (matC n M).set (0 + 1 + a * 40 + b * 1) (.b x) = matC n (upd2 M a b x) := by
  rw [show 0 + 1 + a * 40 + b * 1 = (a * 40 + b) + 1 by omega]
  simp only [matC, List.set_cons_succ]
  refine congrArg (List.cons _) ?_
  refine List.ext_getElem? fun i => ?_
  rw [List.getElem?_set, matR_len]
  by_cases hi : i < 1600
  · have e1 : (matR M)[i]? = some (.b (M (i / 40) (i % 40))) := by simp [matR, hi]
    have e2 : (matR (upd2 M a b x))[i]? = some (.b (upd2 M a b x (i / 40) (i % 40))) := by simp [matR, hi]
    rw [e1, e2]
    by_cases hab : a * 40 + b = i
    · rw [if_pos hab, if_pos (by omega)]
      unfold upd2
      rw [if_pos (by omega)]
    · rw [if_neg hab]
      unfold upd2
      rw [if_neg (by omega)]
  · have e1 : (matR M)[i]? = none := by rw [List.getElem?_eq_none]; rw [matR_len]; omega
    have e2 : (matR (upd2 M a b x))[i]? = none := by rw [List.getElem?_eq_none]; rw [matR_len]; omega
    rw [e1, e2, if_neg (by omega)]
theorem matC_flat (n : Nat) (M : Mx) : (matC n M).all flat = true := by simp [matC, matR, flat]
theorem matC_one (n : Nat) (M : Mx) : (matC n M).all one = true := by simp [matC, matR, one]
theorem matR_one (M : Mx) : (matR M).all one = true := by simp [matR, one]
theorem part_matR (M : Mx) : part (matR M) 0 (some 1600) = some (.agg (matR M)) := by
  simp [part, matR_len]
  rw [List.take_of_length_le (by rw [matR_len]; omega)]
theorem splice_mat (n : Nat) (M M' : Mx) : splice (matC n M) 1 (matR M') = matC n M' := by
  have h : ∀ (vs : List AV) (a : AV) (cs : List AV), 2 ≤ vs.length → vs.length = cs.length → splice (a :: cs) 1 vs = a :: vs := by
    intro vs a cs h2 h
    match vs, h2 with
    | u :: v :: vs, _ =>
      show List.take 1 (a :: cs) ++ (u :: v :: vs) ++ List.drop (1 + (u :: v :: vs).length) (a :: cs) = _
      rw [List.drop_eq_nil_of_le (by simp at h ⊢; omega)]
      simp
  exact h _ _ _ (by rw [matR_len]; omega) (by rw [matR_len, matR_len])
theorem zero_mat (n : Nat) : AV.i .i64 n :: List.replicate 1600 (.b false) = matC n (fun _ _ => false) := by
  unfold matC matR
  refine congrArg (List.cons _) ?_
  refine List.ext_getElem? fun i => ?_
  by_cases hi : i < 1600
  · rw [List.getElem?_replicate, if_pos hi, List.getElem?_map, List.getElem?_range hi]; rfl
  · rw [List.getElem?_eq_none (by rw [List.length_replicate]; omega), List.getElem?_eq_none (by rw [List.length_map, List.length_range]; omega)]
set_option maxRecDepth 10000 in
theorem ml : type_of% (And.intro (And.intro (And.intro @matC_n (And.intro @matC_at @matR_at)) (And.intro (And.intro @matC_drop1 @matC_len) (And.intro @matR_len @matC_one))) (And.intro (And.intro (And.intro @matR_one @matC_flat) (And.intro @part_matR @splice_mat)) (And.intro (And.intro @matC_set @retT_nrm) (And.intro @retT_ret @o_thaw)))) := (And.intro (And.intro (And.intro @matC_n (And.intro @matC_at @matR_at)) (And.intro (And.intro @matC_drop1 @matC_len) (And.intro @matR_len @matC_one))) (And.intro (And.intro (And.intro @matR_one @matC_flat) (And.intro @part_matR @splice_mat)) (And.intro (And.intro @matC_set @retT_nrm) (And.intro @retT_ret @o_thaw))))
end Go.Ab
end
section
set_option linter.unusedVariables false
set_option linter.unusedSimpArgs false
namespace Go.Ab
variable {F : Funs}
theorem pairs_a : ∀ {l : List (Int × Int)} {k : Nat} (h : k < l.length), part ((pairsC l).drop (k * 2)) 0 none = some (.i .i64 (l.getD k (0, 0)).1)
  | p :: l, 0, _ => by simp [pairsC, part]
  | p :: l, k + 1, h => by
    have := pairs_a (l := l) (k := k) (by simpa using h)
    simp only [List.getD_cons_succ]
    rw [← this]
    simp [pairsC, Nat.succ_mul]
theorem pairs_b : ∀ {l : List (Int × Int)} {k : Nat} (h : k < l.length), part (((pairsC l).drop (k * 2)).drop 1) 0 none = some (.i .i64 (l.getD k (0, 0)).2)
  | p :: l, 0, _ => by simp [pairsC, part]
  | p :: l, k + 1, h => by
    have := pairs_b (l := l) (k := k) (by simpa using h)
    simp only [List.getD_cons_succ]
    rw [← this]
    simp [pairsC, Nat.succ_mul]
def addM (n : Nat) (M : Mx) (p : Int × Int) : Mx := if inR n p then upd2 M p.1.toNat p.2.toNat true else M
def newM (n : Nat) (l : List (Int × Int)) : Mx := l.foldl (addM n) (fun _ _ => false)
theorem newM_take {n : Nat} {l : List (Int × Int)} {k : Nat} (h : k < l.length) : newM n (l.take (k + 1)) = addM n (newM n (l.take k)) (l.getD k (0, 0)) := by
  unfold newM
  rw [List.take_add_one, List.foldl_append, List.getElem?_eq_getElem h, List.getD_eq_getElem?_getD, List.getElem?_eq_getElem h]
  rfl
set_option maxHeartbeats 4000000 in
set_option maxRecDepth 100000 in
theorem new_W (n : Int) (l : List (Int × Int)) (t : Tok) (hlen : l.length < 9000000000000000000) : W F A_xref01_New.body (argEnv [.i .i64 n, .sl (pairsC l) l.length t]) g0 (retT A_xref01_New.res (matC (clamp n) (newM (clamp n) l))) := by
  have c1 : (if (40 : Int) < (if n < 0 then (0 : Int) else n) then (40 : Int) else (if n < 0 then (0 : Int) else n)) = clamp n := by unfold clamp; split <;> split <;> omega
  have hcl := clamp_le n
  simp (disch := omega) only [A_xref01_New, wp, Nat.reduceAdd, Nat.reduceMul, Nat.reduceSub, c1, List.all_append, List.all_replicate, zero_mat, ml]
  generalize clamp n = N at hcl
  refine W_loop (fun m e g => ∃ k, m = l.length - k ∧ k ≤ l.length ∧ e 1 = .sl (pairsC l) l.length t ∧ e 6 = .i .i64 k ∧ e 5 = .mp 5 0 ∧ g.hp 5 = some (.cells (matC N (newM N (l.take k))) false) ∧ 5 < g.nx) l.length ?_ ?_
  · refine ⟨0, rfl, Nat.zero_le _, ?_⟩
    simp (disch := omega) only [wp, Nat.reduceAdd, Nat.reduceMul, Nat.reduceSub]
    exact ⟨rfl, rfl, by omega⟩
  · rintro m e g ⟨k, rfl, hk, h1, h6, h5, hg, hn⟩
    by_cases hk' : k < l.length
    · have hk1 : (k : Int) < l.length := by omega
      have hpa := pairs_a hk'
      have hpb := pairs_b hk'
      have hw := succ_wrap (k := k) (by omega)
      have ht := newM_take (n := N) hk'
      generalize l.getD k (0, 0) = p at hpa hpb ht
      obtain ⟨a, b⟩ := p
      by_cases i1 : 0 ≤ a
      · by_cases i2 : 0 ≤ b
        · by_cases i3 : a < N
          · by_cases i4 : b < N
            · have hset := matC_set (n := N) (M := newM N (l.take k)) (a := a.toNat) (b := b.toNat) (x := true) (by omega)
              simp (disch := omega) only [wp, Nat.reduceAdd, Nat.reduceMul, Nat.reduceSub, h1, h5, h6, hk1, hpa, hpb, hg, i1, i2, i3, i4, hw, ml, List.length_drop, pairsC_len, hset]
              refine ⟨_, ?_, k + 1, rfl, by omega, rfl, ?_, by first | omega | (dsimp only; omega)⟩
              · omega
              · rw [ht]; simp [addM, inR, i1, i2, i3, i4]
            · simp (disch := omega) only [wp, Nat.reduceAdd, Nat.reduceMul, Nat.reduceSub, h1, h5, h6, hk1, hpa, hpb, hg, i1, i2, i3, i4, hw, ml, List.length_drop, pairsC_len]
              refine ⟨_, ?_, k + 1, rfl, by omega, rfl, ?_, by first | omega | (dsimp only; omega)⟩
              · omega
              · rw [ht]; simp [addM, inR, i4]
          · simp (disch := omega) only [wp, Nat.reduceAdd, Nat.reduceMul, Nat.reduceSub, h1, h5, h6, hk1, hpa, hpb, hg, i1, i2, i3, hw, ml, List.length_drop, pairsC_len]
            refine ⟨_, ?_, k + 1, rfl, by omega, rfl, ?_, by first | omega | (dsimp only; omega)⟩
            · omega
            · rw [ht]; simp [addM, inR, i3]
        · simp (disch := omega) only [wp, Nat.reduceAdd, Nat.reduceMul, Nat.reduceSub, h1, h5, h6, hk1, hpa, hpb, hg, i1, i2, hw, ml, List.length_drop, pairsC_len]
          refine ⟨_, ?_, k + 1, rfl, by omega, rfl, ?_, by first | omega | (dsimp only; omega)⟩
          · omega
          · rw [ht]; simp [addM, inR, i2]
      · simp (disch := omega) only [wp, Nat.reduceAdd, Nat.reduceMul, Nat.reduceSub, h1, h5, h6, hk1, hpa, hpb, hg, i1, hw, ml, List.length_drop, pairsC_len]
        refine ⟨_, ?_, k + 1, rfl, by omega, rfl, ?_, by first | omega | (dsimp only; omega)⟩
        · omega
        · rw [ht]; simp [addM, inR, i1]
    · obtain rfl : k = l.length := by omega
      have hk1 : ¬ ((l.length : Int) < l.length) := by omega
      simp (disch := omega) only [wp, Nat.reduceAdd, Nat.reduceMul, Nat.reduceSub, h1, h5, h6, hk1, hg, retT_ret, List.take_length]
      exact ⟨5, rfl, hg.trans (by rw [List.take_length])⟩
theorem sp_newT (h27 : F 27 = some A_xref01_New) {n : Nat} (hn : n ≤ 40) (t : Tok) : thawS F 27 [.i .i64 n, .sl [] 0 t] = some (matC n fun _ _ => false) := by
  have := thaw_of h27 (matC_flat _ _) (new_W (F := F) (n : Int) [] t (by simp))
  rw [show clamp (n : Int) = n by unfold clamp; omega] at this
  exact this
end Go.Ab
end
section
set_option linter.unusedVariables false
set_option linter.unusedSimpArgs false
namespace Go.Ab
variable {F : Funs}
theorem thaw27 (h27 : F 27 = some A_xref01_New) {n : Nat} (hn : n ≤ 40) (al : Nat → Bool) (id : Nat) (g : G) : vThaw F al id (.fn 27 [] []) [.i .i64 n, .sl [] 0 .rig] g = some (.mp id 0, ⟨upd g.hp id (some (.cells (matC n fun _ _ => false) false)), g.nx⟩) :=
  vThaw_S (bs := [.i .i64 n, .sl [] 0 .non]) (by rw [frzL_cons, frzL_cons, frzL_nil, frz_d_i, frz_d_sl]; rfl) (sp_newT h27 hn .non) (by rw [List.flatMap_cons, List.flatMap_cons, vis_i, vis_sl]; rfl)
def stM (φ : Bool → Bool → Bool) (A B : Mx) (N a b : Nat) : Mx := fun i j => if (i < a ∧ j < N) ∨ (i = a ∧ j < b) then φ (A i j) (B i j) else false
theorem stM_succ (φ A B N a b) : upd2 (stM φ A B N a b) a b (φ (A a b) (B a b)) = stM φ A B N a (b + 1) := by
  funext i j
  unfold upd2 stM
  by_cases h : i = a ∧ j = b
  · obtain ⟨rfl, rfl⟩ := h
    rw [if_pos ⟨rfl, rfl⟩, if_pos (.inr ⟨rfl, by omega⟩)]
  · rw [if_neg h]
    by_cases h2 : (i < a ∧ j < N) ∨ (i = a ∧ j < b)
    · rw [if_pos h2, if_pos (by omega)]
    · rw [if_neg h2, if_neg (by omega)]
theorem stM_row (φ A B N a) : stM φ A B N a N = stM φ A B N (a + 1) 0 := by
  funext i j
  unfold stM
  by_cases h2 : (i < a ∧ j < N) ∨ (i = a ∧ j < N)
  · rw [if_pos h2, if_pos (by omega)]
  · rw [if_neg h2, if_neg (by omega)]
theorem stM_0 (φ A B N) : stM φ A B N 0 0 = fun _ _ => false := by
  funext i j
  unfold stM
  rw [if_neg (by omega)]
def opM (φ : Bool → Bool → Bool) (A B : Mx) (N : Nat) : Mx := stM φ A B N N 0
set_option maxRecDepth 100000 in
set_option maxHeartbeats 4000000 in
theorem sp_mor (h : F 29 = some A_xref01_R_Or) (h27 : F 27 = some A_xref01_New) {n m : Nat} (hn : n ≤ 40) (hm : m ≤ 40) (A B : Mx) : pureS F 29 [.ptr (matC n A), .ptr (matC m B)] = some (.ptr (matC (max n m) (opM (fun x y => x || y) A B (max n m)))) := by
  refine pure_of_thaw h (matC_flat _ _) ?_
  have hN : max n m ≤ 40 := by omega
  simp (disch := omega) only [A_xref01_R_Or, wp, Nat.reduceAdd, Nat.reduceMul, Nat.reduceSub, ml, maxI, thaw27 h27]
  generalize max n m = N at hN
  refine W_loop (fun q e g => ∃ a, q = N - a ∧ a ≤ N ∧ e 0 = .ptr (matC n A) ∧ e 1 = .ptr (matC m B) ∧ e 5 = .mp 10 0 ∧ e 6 = .i .i64 a ∧ g.hp 10 = some (.cells (matC N (stM (fun x y => x || y) A B N a 0)) false) ∧ 10 < g.nx) N ?_ ?_
  · refine ⟨0, rfl, Nat.zero_le _, ?_⟩
    simp (disch := omega) only [wp, Nat.reduceAdd, Nat.reduceMul, Nat.reduceSub, stM_0]
    exact ⟨rfl, by first | omega | (dsimp only; omega)⟩
  · rintro q e g ⟨a, rfl, ha, h0, h1, h5, h6, hg, hnx⟩
    by_cases ha' : a < N
    · have ha1 : (a : Int) < N := by omega
      have hwa := succ_wrap (k := a) (by omega)
      simp (disch := omega) only [wp, Nat.reduceAdd, Nat.reduceMul, Nat.reduceSub, ml, h0, h1, h5, h6, hg, ha1]
      refine W_loop (fun q e g => ∃ b, q = N - b ∧ b ≤ N ∧ e 0 = .ptr (matC n A) ∧ e 1 = .ptr (matC m B) ∧ e 5 = .mp 10 0 ∧ e 6 = .i .i64 a ∧ e 7 = .i .i64 b ∧ g.hp 10 = some (.cells (matC N (stM (fun x y => x || y) A B N a b)) false) ∧ 10 < g.nx) N ?_ ?_
      · refine ⟨0, rfl, Nat.zero_le _, ?_⟩
        simp (disch := omega) only [wp, Nat.reduceAdd, Nat.reduceMul, Nat.reduceSub, h0, h1, h5, h6, hg]
        exact ⟨rfl, by first | omega | (dsimp only; omega)⟩
      · rintro q e g ⟨b, rfl, hb, h0, h1, h5, h6, h7, hg, hnx⟩
        by_cases hb' : b < N
        · have hb1 : (b : Int) < N := by omega
          have hwb := succ_wrap (k := b) (by omega)
          have hs := stM_succ (fun x y => x || y) A B N a b
          cases hA : A a b with
          | true =>
            simp only [hA, Bool.true_or, Bool.true_and] at hs
            simp (disch := omega) only [wp, Nat.reduceAdd, Nat.reduceMul, Nat.reduceSub, ml, h0, h1, h5, h6, h7, hg, hb1, hA, hwb, hs]
            exact ⟨N - (b + 1), by omega, b + 1, rfl, by omega, rfl, rfl, by first | omega | (dsimp only; omega)⟩
          | false =>
            simp only [hA, Bool.false_or, Bool.false_and] at hs
            simp (disch := omega) only [wp, Nat.reduceAdd, Nat.reduceMul, Nat.reduceSub, ml, h0, h1, h5, h6, h7, hg, hb1, hA, hwb, hs]
            exact ⟨N - (b + 1), by omega, b + 1, rfl, by omega, rfl, rfl, by first | omega | (dsimp only; omega)⟩
        · obtain rfl : b = N := by omega
          have hb1 : ¬ ((b : Int) < b) := by omega
          rw [stM_row] at hg
          simp (disch := omega) only [wp, Nat.reduceAdd, Nat.reduceMul, Nat.reduceSub, ml, h0, h1, h5, h6, h7, hg, hb1, hwa]
          exact ⟨b - (a + 1), by omega, a + 1, rfl, by omega, rfl, rfl, by first | omega | (dsimp only; omega)⟩
    · obtain rfl : a = N := by omega
      have ha1 : ¬ ((a : Int) < a) := by omega
      simp (disch := omega) only [wp, Nat.reduceAdd, Nat.reduceMul, Nat.reduceSub, ml, h0, h1, h5, h6, hg, ha1]
      exact ⟨10, rfl, hg⟩
set_option maxRecDepth 100000 in
set_option maxHeartbeats 4000000 in
theorem sp_mand (h : F 30 = some A_xref01_R_And) (h27 : F 27 = some A_xref01_New) {n m : Nat} (hn : n ≤ 40) (hm : m ≤ 40) (A B : Mx) : pureS F 30 [.ptr (matC n A), .ptr (matC m B)] = some (.ptr (matC (max n m) (opM (fun x y => x && y) A B (max n m)))) := by
  refine pure_of_thaw h (matC_flat _ _) ?_
  have hN : max n m ≤ 40 := by omega
  simp (disch := omega) only [A_xref01_R_And, wp, Nat.reduceAdd, Nat.reduceMul, Nat.reduceSub, ml, maxI, thaw27 h27]
  generalize max n m = N at hN
  refine W_loop (fun q e g => ∃ a, q = N - a ∧ a ≤ N ∧ e 0 = .ptr (matC n A) ∧ e 1 = .ptr (matC m B) ∧ e 5 = .mp 10 0 ∧ e 6 = .i .i64 a ∧ g.hp 10 = some (.cells (matC N (stM (fun x y => x && y) A B N a 0)) false) ∧ 10 < g.nx) N ?_ ?_
  · refine ⟨0, rfl, Nat.zero_le _, ?_⟩
    simp (disch := omega) only [wp, Nat.reduceAdd, Nat.reduceMul, Nat.reduceSub, stM_0]
    exact ⟨rfl, by first | omega | (dsimp only; omega)⟩
  · rintro q e g ⟨a, rfl, ha, h0, h1, h5, h6, hg, hnx⟩
    by_cases ha' : a < N
    · have ha1 : (a : Int) < N := by omega
      have hwa := succ_wrap (k := a) (by omega)
      simp (disch := omega) only [wp, Nat.reduceAdd, Nat.reduceMul, Nat.reduceSub, ml, h0, h1, h5, h6, hg, ha1]
      refine W_loop (fun q e g => ∃ b, q = N - b ∧ b ≤ N ∧ e 0 = .ptr (matC n A) ∧ e 1 = .ptr (matC m B) ∧ e 5 = .mp 10 0 ∧ e 6 = .i .i64 a ∧ e 7 = .i .i64 b ∧ g.hp 10 = some (.cells (matC N (stM (fun x y => x && y) A B N a b)) false) ∧ 10 < g.nx) N ?_ ?_
      · refine ⟨0, rfl, Nat.zero_le _, ?_⟩
        simp (disch := omega) only [wp, Nat.reduceAdd, Nat.reduceMul, Nat.reduceSub, h0, h1, h5, h6, hg]
        exact ⟨rfl, by first | omega | (dsimp only; omega)⟩
      · rintro q e g ⟨b, rfl, hb, h0, h1, h5, h6, h7, hg, hnx⟩
        by_cases hb' : b < N
        · have hb1 : (b : Int) < N := by omega
          have hwb := succ_wrap (k := b) (by omega)
          have hs := stM_succ (fun x y => x && y) A B N a b
          cases hA : A a b with
          | true =>
            simp only [hA, Bool.true_or, Bool.true_and] at hs
            simp (disch := omega) only [wp, Nat.reduceAdd, Nat.reduceMul, Nat.reduceSub, ml, h0, h1, h5, h6, h7, hg, hb1, hA, hwb, hs]
            exact ⟨N - (b + 1), by omega, b + 1, rfl, by omega, rfl, rfl, by first | omega | (dsimp only; omega)⟩
          | false =>
            simp only [hA, Bool.false_or, Bool.false_and] at hs
            simp (disch := omega) only [wp, Nat.reduceAdd, Nat.reduceMul, Nat.reduceSub, ml, h0, h1, h5, h6, h7, hg, hb1, hA, hwb, hs]
            exact ⟨N - (b + 1), by omega, b + 1, rfl, by omega, rfl, rfl, by first | omega | (dsimp only; omega)⟩
        · obtain rfl : b = N := by omega
          have hb1 : ¬ ((b : Int) < b) := by omega
          rw [stM_row] at hg
          simp (disch := omega) only [wp, Nat.reduceAdd, Nat.reduceMul, Nat.reduceSub, ml, h0, h1, h5, h6, h7, hg, hb1, hwa]
          exact ⟨b - (a + 1), by omega, a + 1, rfl, by omega, rfl, rfl, by first | omega | (dsimp only; omega)⟩
    · obtain rfl : a = N := by omega
      have ha1 : ¬ ((a : Int) < a) := by omega
      simp (disch := omega) only [wp, Nat.reduceAdd, Nat.reduceMul, Nat.reduceSub, ml, h0, h1, h5, h6, hg, ha1]
      exact ⟨10, rfl, hg⟩
end Go.Ab
end
section
set_option linter.unusedVariables false
set_option linter.unusedSimpArgs false
namespace Go.Ab
variable {F : Funs}
def t1M (A B : Mx) (a b c : Nat) (T : Mx) : Mx := fun i j => if i = a ∧ j < c then T i j || B b j else T i j
def t2M (A B : Mx) (N a : Nat) (T : Mx) (b : Nat) : Mx := if A a b then t1M A B a b N T else T
def t3M (A B : Mx) (N a k : Nat) (T : Mx) : Mx := (List.range k).foldl (t2M A B N a) T
def thM (A B : Mx) (N k : Nat) : Mx := (List.range k).foldl (fun T a => t3M A B N a N T) (fun _ _ => false)
theorem t3M_succ (A B N a k T) : t3M A B N a (k + 1) T = t2M A B N a (t3M A B N a k T) k := by simp [t3M, List.range_succ]
theorem thM_succ (A B N k) : thM A B N (k + 1) = t3M A B N k N (thM A B N k) := by simp [thM, List.range_succ]
theorem t1M_succ (A B a b c T) : upd2 (t1M A B a b c T) a c (T a c || B b c) = t1M A B a b (c + 1) T := by
  funext i j
  unfold upd2 t1M
  by_cases h : i = a ∧ j = c
  · obtain ⟨rfl, rfl⟩ := h; rw [if_pos ⟨rfl, rfl⟩, if_pos ⟨rfl, by omega⟩]
  · rw [if_neg h]
    by_cases h2 : i = a ∧ j < c
    · rw [if_pos h2, if_pos (by omega)]
    · rw [if_neg h2, if_neg (by omega)]
theorem t1M_at (A B a b c T) : t1M A B a b c T a c = T a c := by unfold t1M; rw [if_neg (by omega)]
theorem t1M_0 (A B a b T) : t1M A B a b 0 T = T := by funext i j; unfold t1M; rw [if_neg (by omega)]
set_option maxRecDepth 100000 in
set_option maxHeartbeats 4000000 in
theorem sp_mthen (h : F 32 = some A_xref01_R_Then) (h27 : F 27 = some A_xref01_New) {n m : Nat} (hn : n ≤ 40) (hm : m ≤ 40) (A B : Mx) : pureS F 32 [.ptr (matC n A), .ptr (matC m B)] = some (.ptr (matC (max n m) (thM A B (max n m) (max n m)))) := by
  refine pure_of_thaw h (matC_flat _ _) ?_
  have hN : max n m ≤ 40 := by omega
  simp (disch := omega) only [A_xref01_R_Then, wp, Nat.reduceAdd, Nat.reduceMul, Nat.reduceSub, ml, maxI, thaw27 h27]
  generalize max n m = N at hN
  refine W_loop (fun q e g => ∃ a, q = N - a ∧ a ≤ N ∧ e 0 = .ptr (matC n A) ∧ e 1 = .ptr (matC m B) ∧ e 5 = .mp 10 0 ∧ e 6 = .i .i64 a ∧ g.hp 10 = some (.cells (matC N (thM A B N a)) false) ∧ 10 < g.nx) N ?_ ?_
  · refine ⟨0, rfl, Nat.zero_le _, ?_⟩
    simp (disch := omega) only [wp, Nat.reduceAdd, Nat.reduceMul, Nat.reduceSub]
    exact ⟨rfl, rfl, by first | omega | (dsimp only; omega)⟩
  · rintro q e g ⟨a, rfl, ha, h0, h1, h5, h6, hg, hnx⟩
    by_cases ha' : a < N
    · have ha1 : (a : Int) < N := by omega
      have hwa := succ_wrap (k := a) (by omega)
      simp (disch := omega) only [wp, Nat.reduceAdd, Nat.reduceMul, Nat.reduceSub, ml, h0, h1, h5, h6, hg, ha1]
      refine W_loop (fun q e g => ∃ b, q = N - b ∧ b ≤ N ∧ e 0 = .ptr (matC n A) ∧ e 1 = .ptr (matC m B) ∧ e 5 = .mp 10 0 ∧ e 6 = .i .i64 a ∧ e 7 = .i .i64 b ∧ g.hp 10 = some (.cells (matC N (t3M A B N a b (thM A B N a))) false) ∧ 10 < g.nx) N ?_ ?_
      · refine ⟨0, rfl, Nat.zero_le _, ?_⟩
        simp (disch := omega) only [wp, Nat.reduceAdd, Nat.reduceMul, Nat.reduceSub, h0, h1, h5, h6, hg]
        exact ⟨rfl, rfl, by first | omega | (dsimp only; omega)⟩
      · rintro q e g ⟨b, rfl, hb, h0, h1, h5, h6, h7, hg, hnx⟩
        by_cases hb' : b < N
        · have hb1 : (b : Int) < N := by omega
          have hwb := succ_wrap (k := b) (by omega)
          have hs := t3M_succ A B N a b (thM A B N a)
          generalize t3M A B N a b (thM A B N a) = T at hg hs
          cases hA : A a b with
          | true =>
            rw [t2M, if_pos hA] at hs
            simp (disch := omega) only [wp, Nat.reduceAdd, Nat.reduceMul, Nat.reduceSub, ml, h0, h1, h5, h6, h7, hg, hb1]
            refine W_loop (fun q e g => ∃ c, q = N - c ∧ c ≤ N ∧ e 0 = .ptr (matC n A) ∧ e 1 = .ptr (matC m B) ∧ e 5 = .mp 10 0 ∧ e 6 = .i .i64 a ∧ e 7 = .i .i64 b ∧ e 8 = .i .i64 c ∧ g.hp 10 = some (.cells (matC N (t1M A B a b c T)) false) ∧ 10 < g.nx) N ?_ ?_
            · refine ⟨0, rfl, Nat.zero_le _, ?_⟩
              simp (disch := omega) only [wp, Nat.reduceAdd, Nat.reduceMul, Nat.reduceSub, h0, h1, h5, h6, h7, hg, t1M_0]
              exact ⟨rfl, by first | omega | (dsimp only; omega)⟩
            · rintro q e g ⟨c, rfl, hc, h0, h1, h5, h6, h7, h8, hg, hnx⟩
              by_cases hc' : c < N
              · have hc1 : (c : Int) < N := by omega
                have hwc := succ_wrap (k := c) (by omega)
                have hs1 := t1M_succ A B a b c T
                have hat := t1M_at A B a b c T
                cases hT : T a c with
                | true =>
                  rw [hT] at hat hs1
                  simp only [Bool.true_or] at hs1
                  simp (disch := omega) only [wp, Nat.reduceAdd, Nat.reduceMul, Nat.reduceSub, ml, h0, h1, h5, h6, h7, h8, hg, hc1, hA, hat, hwc, hs1]
                  exact ⟨N - (c + 1), by omega, c + 1, rfl, by omega, rfl, rfl, by first | omega | (dsimp only; omega)⟩
                | false =>
                  rw [hT] at hat hs1
                  simp only [Bool.false_or] at hs1
                  simp (disch := omega) only [wp, Nat.reduceAdd, Nat.reduceMul, Nat.reduceSub, ml, h0, h1, h5, h6, h7, h8, hg, hc1, hA, hat, hwc, hs1]
                  exact ⟨N - (c + 1), by omega, c + 1, rfl, by omega, rfl, rfl, by first | omega | (dsimp only; omega)⟩
              · obtain rfl : c = N := by omega
                have hc1 : ¬ ((c : Int) < c) := by omega
                rw [← hs] at hg
                simp (disch := omega) only [wp, Nat.reduceAdd, Nat.reduceMul, Nat.reduceSub, ml, h0, h1, h5, h6, h7, h8, hg, hc1, hwb]
                exact ⟨c - (b + 1), by omega, b + 1, rfl, by omega, rfl, rfl, by first | omega | (dsimp only; omega)⟩
          | false =>
            rw [t2M, if_neg (by rw [hA]; simp)] at hs
            have h0N : (0 : Int) < N := by omega
            have hA0 : part (((matR A).drop (a * 40)).drop (b * 1)) 0 none = some (.b false) := by rw [matR_at (by omega), hA]
            simp (disch := omega) only [wp, Nat.reduceAdd, Nat.reduceMul, Nat.reduceSub, ml, h0, h1, h5, h6, h7, hg, hb1]
            refine W_loop (fun q e g => e 0 = .ptr (matC n A) ∧ e 1 = .ptr (matC m B) ∧ e 5 = .mp 10 0 ∧ e 6 = .i .i64 a ∧ e 7 = .i .i64 b ∧ e 8 = .i .i64 0 ∧ g.hp 10 = some (.cells (matC N T) false) ∧ 10 < g.nx) 0 ?_ ?_
            · simp (disch := omega) only [wp, Nat.reduceAdd, Nat.reduceMul, Nat.reduceSub, h0, h1, h5, h6, h7, hg]
              first | omega | (dsimp only; omega)
            · rintro q e g ⟨h0, h1, h5, h6, h7, h8, hg, hnx⟩
              rw [← hs] at hg
              simp (disch := omega) only [wp, Nat.reduceAdd, Nat.reduceMul, Nat.reduceSub, ml, h0, h1, h5, h6, h7, h8, hg, h0N, hA, hwb]
              exact ⟨N - (b + 1), by omega, b + 1, rfl, by omega, rfl, rfl, by first | omega | (dsimp only; omega)⟩
        · obtain rfl : b = N := by omega
          have hb1 : ¬ ((b : Int) < b) := by omega
          rw [← thM_succ] at hg
          simp (disch := omega) only [wp, Nat.reduceAdd, Nat.reduceMul, Nat.reduceSub, ml, h0, h1, h5, h6, h7, hg, hb1, hwa]
          exact ⟨b - (a + 1), by omega, a + 1, rfl, by omega, rfl, rfl, by first | omega | (dsimp only; omega)⟩
    · obtain rfl : a = N := by omega
      have ha1 : ¬ ((a : Int) < a) := by omega
      simp (disch := omega) only [wp, Nat.reduceAdd, Nat.reduceMul, Nat.reduceSub, ml, h0, h1, h5, h6, hg, ha1]
      exact ⟨10, rfl, hg⟩
def mbM (A : Mx) (k : Nat) : Mx := fun i j => A i j || decide (i < k ∧ i = j)
theorem mbM_succ (A k) : upd2 (mbM A k) k k true = mbM A (k + 1) := by
  funext i j
  unfold upd2 mbM
  by_cases h : i = k ∧ j = k
  · obtain ⟨rfl, rfl⟩ := h; rw [if_pos ⟨rfl, rfl⟩]; simp
  · rw [if_neg h]
    congr 1
    rw [decide_eq_decide]; omega
theorem mbM_0 (A) : mbM A 0 = A := by funext i j; simp [mbM]
set_option maxRecDepth 100000 in
set_option maxHeartbeats 4000000 in
theorem sp_mmaybe (h : F 35 = some A_xref01_R_Maybe) (h27 : F 27 = some A_xref01_New) {n : Nat} (hn : n ≤ 40) (A : Mx) : pureS F 35 [.ptr (matC n A)] = some (.ptr (matC n (mbM A n))) := by
  refine pure_of_thaw h (matC_flat _ _) ?_
  simp (disch := omega) only [A_xref01_R_Maybe, wp, Nat.reduceAdd, Nat.reduceMul, Nat.reduceSub, ml, thaw27 h27]
  refine W_loop (fun q e g => ∃ a, q = n - a ∧ a ≤ n ∧ e 3 = .mp 5 0 ∧ e 4 = .i .i64 a ∧ g.hp 5 = some (.cells (matC n (mbM A a)) false) ∧ 5 < g.nx) n ?_ ?_
  · refine ⟨0, rfl, Nat.zero_le _, ?_⟩
    simp (disch := omega) only [wp, Nat.reduceAdd, Nat.reduceMul, Nat.reduceSub, mbM_0]
    exact ⟨rfl, by first | omega | (dsimp only; omega)⟩
  · rintro q e g ⟨a, rfl, ha, h3, h4, hg, hnx⟩
    by_cases ha' : a < n
    · have ha1 : (a : Int) < n := by omega
      have hwa := succ_wrap (k := a) (by omega)
      have hs := mbM_succ A a
      simp (disch := omega) only [wp, Nat.reduceAdd, Nat.reduceMul, Nat.reduceSub, ml, h3, h4, hg, ha1, hwa, hs]
      exact ⟨n - (a + 1), by omega, a + 1, rfl, by omega, rfl, rfl, by first | omega | (dsimp only; omega)⟩
    · obtain rfl : a = n := by omega
      have ha1 : ¬ ((a : Int) < a) := by omega
      simp (disch := omega) only [wp, Nat.reduceAdd, Nat.reduceMul, Nat.reduceSub, ml, h3, h4, hg, ha1]
      exact ⟨5, rfl, hg⟩
end Go.Ab
end
section
set_option linter.unusedVariables false
set_option linter.unusedSimpArgs false
namespace Go.Ab
variable {F : Funs}
def p1M (k a c : Nat) (T : Mx) : Mx := fun i j => if i = a ∧ j < c then T i j || T k j else T i j
def p2M (N k : Nat) (T : Mx) (a : Nat) : Mx := if T a k then p1M k a N T else T
def p3M (N k m : Nat) (T : Mx) : Mx := (List.range m).foldl (p2M N k) T
def plM (N : Nat) (A : Mx) (m : Nat) : Mx := (List.range m).foldl (fun T k => p3M N k N T) A
theorem p3M_succ (N k m T) : p3M N k (m + 1) T = p2M N k (p3M N k m T) m := by simp [p3M, List.range_succ]
theorem plM_succ (N A m) : plM N A (m + 1) = p3M N m N (plM N A m) := by simp [plM, List.range_succ]
theorem p1M_succ (k a c T) : upd2 (p1M k a c T) a c (T a c || T k c) = p1M k a (c + 1) T := by
  funext i j
  unfold upd2 p1M
  by_cases h : i = a ∧ j = c
  · obtain ⟨rfl, rfl⟩ := h; rw [if_pos ⟨rfl, rfl⟩, if_pos ⟨rfl, by omega⟩]
  · rw [if_neg h]
    by_cases h2 : i = a ∧ j < c
    · rw [if_pos h2, if_pos (by omega)]
    · rw [if_neg h2, if_neg (by omega)]
theorem p1M_at (k a c T) : p1M k a c T a c = T a c := by unfold p1M; rw [if_neg (by omega)]
theorem p1M_k (k a c T) : p1M k a c T k c = T k c := by unfold p1M; rw [if_neg (by omega)]
theorem p1M_cond {k a c T} (h : T a k = true) : p1M k a c T a k = true := by unfold p1M; split <;> simp [h]
theorem p1M_0 (k a T) : p1M k a 0 T = T := by funext i j; unfold p1M; rw [if_neg (by omega)]
set_option maxRecDepth 100000 in
set_option maxHeartbeats 4000000 in
theorem sp_mplus (h : F 34 = some A_xref01_R_Plus) (h27 : F 27 = some A_xref01_New) {N : Nat} (hN : N ≤ 40) (A : Mx) : pureS F 34 [.ptr (matC N A)] = some (.ptr (matC N (plM N A N))) := by
  refine pure_of_thaw h (matC_flat _ _) ?_
  simp (disch := omega) only [A_xref01_R_Plus, wp, Nat.reduceAdd, Nat.reduceMul, Nat.reduceSub, ml, thaw27 h27]
  refine W_loop (fun q e g => ∃ k, q = N - k ∧ k ≤ N ∧ e 3 = .mp 5 0 ∧ e 4 = .i .i64 k ∧ g.hp 5 = some (.cells (matC N (plM N A k)) false) ∧ 5 < g.nx) N ?_ ?_
  · refine ⟨0, rfl, Nat.zero_le _, ?_⟩
    simp (disch := omega) only [wp, Nat.reduceAdd, Nat.reduceMul, Nat.reduceSub]
    exact ⟨rfl, rfl, by first | omega | (dsimp only; omega)⟩
  · rintro q e g ⟨k, rfl, hk, h3, h4, hg, hnx⟩
    by_cases hk' : k < N
    · have hk1 : (k : Int) < N := by omega
      have hwk := succ_wrap (k := k) (by omega)
      simp (disch := omega) only [wp, Nat.reduceAdd, Nat.reduceMul, Nat.reduceSub, ml, h3, h4, hg, hk1]
      refine W_loop (fun q e g => ∃ a, q = N - a ∧ a ≤ N ∧ e 3 = .mp 5 0 ∧ e 4 = .i .i64 k ∧ e 5 = .i .i64 a ∧ g.hp 5 = some (.cells (matC N (p3M N k a (plM N A k))) false) ∧ 5 < g.nx) N ?_ ?_
      · refine ⟨0, rfl, Nat.zero_le _, ?_⟩
        simp (disch := omega) only [wp, Nat.reduceAdd, Nat.reduceMul, Nat.reduceSub, h3, h4, hg]
        exact ⟨rfl, rfl, by first | omega | (dsimp only; omega)⟩
      · rintro q e g ⟨a, rfl, ha, h3, h4, h5, hg, hnx⟩
        by_cases ha' : a < N
        · have ha1 : (a : Int) < N := by omega
          have hwa := succ_wrap (k := a) (by omega)
          have hs := p3M_succ N k a (plM N A k)
          generalize p3M N k a (plM N A k) = T at hg hs
          cases hA : T a k with
          | true =>
            rw [p2M, if_pos hA] at hs
            simp (disch := omega) only [wp, Nat.reduceAdd, Nat.reduceMul, Nat.reduceSub, ml, h3, h4, h5, hg, ha1]
            refine W_loop (fun q e g => ∃ c, q = N - c ∧ c ≤ N ∧ e 3 = .mp 5 0 ∧ e 4 = .i .i64 k ∧ e 5 = .i .i64 a ∧ e 6 = .i .i64 c ∧ g.hp 5 = some (.cells (matC N (p1M k a c T)) false) ∧ 5 < g.nx) N ?_ ?_
            · refine ⟨0, rfl, Nat.zero_le _, ?_⟩
              simp (disch := omega) only [wp, Nat.reduceAdd, Nat.reduceMul, Nat.reduceSub, h3, h4, h5, hg, p1M_0]
              exact ⟨rfl, by first | omega | (dsimp only; omega)⟩
            · rintro q e g ⟨c, rfl, hc, h3, h4, h5, h6, hg, hnx⟩
              by_cases hc' : c < N
              · have hc1 : (c : Int) < N := by omega
                have hwc := succ_wrap (k := c) (by omega)
                have hs1 := p1M_succ k a c T
                have hat := p1M_at k a c T
                have hkc := p1M_k k a c T
                have hco := p1M_cond (c := c) hA
                generalize p1M k a c T = M at hg hs1 hat hkc hco
                cases hT : T a c with
                | true =>
                  rw [hT] at hat hs1
                  simp only [Bool.true_or] at hs1
                  simp (disch := omega) only [wp, Nat.reduceAdd, Nat.reduceMul, Nat.reduceSub, ml, h3, h4, h5, h6, hg, hc1, hco, hat, hwc, hs1]
                  exact ⟨N - (c + 1), by omega, c + 1, rfl, by omega, rfl, rfl, by first | omega | (dsimp only; omega)⟩
                | false =>
                  rw [hT] at hat hs1
                  simp only [Bool.false_or] at hs1
                  simp (disch := omega) only [wp, Nat.reduceAdd, Nat.reduceMul, Nat.reduceSub, ml, h3, h4, h5, h6, hg, hc1, hco, hat, hkc, hwc, hs1]
                  exact ⟨N - (c + 1), by omega, c + 1, rfl, by omega, rfl, rfl, by first | omega | (dsimp only; omega)⟩
              · obtain rfl : c = N := by omega
                have hc1 : ¬ ((c : Int) < c) := by omega
                rw [← hs] at hg
                simp (disch := omega) only [wp, Nat.reduceAdd, Nat.reduceMul, Nat.reduceSub, ml, h3, h4, h5, h6, hg, hc1, hwa]
                exact ⟨c - (a + 1), by omega, a + 1, rfl, by omega, rfl, rfl, by first | omega | (dsimp only; omega)⟩
          | false =>
            rw [p2M, if_neg (by rw [hA]; simp)] at hs
            have h0N : (0 : Int) < N := by omega
            simp (disch := omega) only [wp, Nat.reduceAdd, Nat.reduceMul, Nat.reduceSub, ml, h3, h4, h5, hg, ha1]
            refine W_loop (fun q e g => e 3 = .mp 5 0 ∧ e 4 = .i .i64 k ∧ e 5 = .i .i64 a ∧ e 6 = .i .i64 0 ∧ g.hp 5 = some (.cells (matC N T) false) ∧ 5 < g.nx) 0 ?_ ?_
            · simp (disch := omega) only [wp, Nat.reduceAdd, Nat.reduceMul, Nat.reduceSub, h3, h4, h5, hg]
              first | omega | (dsimp only; omega)
            · rintro q e g ⟨h3, h4, h5, h6, hg, hnx⟩
              simp (disch := omega) only [wp, Nat.reduceAdd, Nat.reduceMul, Nat.reduceSub, ml, h3, h4, h5, h6, hg, h0N, hA, hwa]
              exact ⟨N - (a + 1), by omega, a + 1, rfl, by omega, rfl, by rw [hs], by first | omega | (dsimp only; omega)⟩
        · obtain rfl : a = N := by omega
          have ha1 : ¬ ((a : Int) < a) := by omega
          rw [← plM_succ] at hg
          simp (disch := omega) only [wp, Nat.reduceAdd, Nat.reduceMul, Nat.reduceSub, ml, h3, h4, h5, hg, ha1, hwk]
          exact ⟨a - (k + 1), by omega, k + 1, rfl, by omega, rfl, rfl, by first | omega | (dsimp only; omega)⟩
    · obtain rfl : k = N := by omega
      have hk1 : ¬ ((k : Int) < k) := by omega
      simp (disch := omega) only [wp, Nat.reduceAdd, Nat.reduceMul, Nat.reduceSub, ml, h3, h4, hg, hk1]
      exact ⟨5, rfl, hg⟩
end Go.Ab
end
section
set_option linter.unusedVariables false
set_option linter.unusedSimpArgs false
namespace Go.Ab
variable {F : Funs}
def Eqv (A : Mx) (R : Rw) : Prop := ∀ a b, A a b = hb R a b
theorem upd2_get (M : Mx) (a b : Nat) (x : Bool) (i j : Nat) : upd2 M a b x i j = if i = a ∧ j = b then x else M i j := rfl
theorem eqv_new {n : Nat} (hn : n ≤ 40) (l : List (Int × Int)) : Eqv (newM n l) (newR n l) := by
  have key : ∀ (l : List (Int × Int)) (M : Mx) (R : Rw), Eqv M R → Eqv (l.foldl (addM n) M) (l.foldl (addR n) R) := by
    intro l
    induction l with
    | nil => intro M R h; exact h
    | cons p l ih =>
      intro M R h
      refine ih _ _ fun a b => ?_
      rw [hb_add hn]
      unfold addM
      by_cases hi : inR n p = true
      · rw [if_pos hi, upd2_get, hi]
        have hi' := hi
        simp only [inR, decide_eq_true_eq] at hi'
        by_cases h2 : a = p.1.toNat ∧ b = p.2.toNat
        · rw [if_pos h2]
          have : p = ((a : Int), (b : Int)) := by
            obtain ⟨x, y⟩ := p
            simp only at h2 hi'
            simp only [Prod.mk.injEq]; omega
          simp [this]
        · rw [if_neg h2, h a b]
          have : ¬ p = ((a : Int), (b : Int)) := by
            rintro rfl
            exact h2 ⟨by simp, by simp⟩
          simp [this]
      · rw [if_neg hi, h a b]
        simp only [Bool.not_eq_true] at hi
        simp [hi]
  exact key l _ _ fun a b => by rw [hb_zero]
def Same (n : Nat) (M : Mx) (R : Rw) : Prop := ∀ a b : Nat, a < n → b < n → M a b = has n R a b
theorem same_of {n : Nat} {M : Mx} {R : Rw} (h : ∀ a b, a < n → b < n → M a b = hb R a b) : Same n M R := fun a b ha hb' => by
  rw [h a b ha hb', has_N]
  simp [hN, ha, hb']
theorem opM_get (φ : Bool → Bool → Bool) (A B : Mx) (N a b : Nat) (ha : a < N) (hb' : b < N) : opM φ A B N a b = φ (A a b) (B a b) := by
  unfold opM stM; rw [if_pos (.inl ⟨ha, hb'⟩)]
theorem t3M_get (A B : Mx) (N a k : Nat) (T : Mx) (i j : Nat) (hj : j < N) : t3M A B N a k T i j = (T i j || (decide (i = a) && (List.range k).any fun c => A a c && B c j)) := by
  induction k with
  | zero => simp [t3M]
  | succ k ih =>
    rw [t3M_succ, t2M, List.range_succ, List.any_append]
    cases hA : A a k with
    | true =>
      rw [if_pos rfl]
      unfold t1M
      by_cases hi : i = a
      · subst hi
        rw [if_pos ⟨rfl, hj⟩, ih]
        simp [hA, Bool.or_assoc]
      · rw [if_neg (fun h => hi h.1), ih]
        simp [hi]
    | false =>
      rw [if_neg (by simp), ih]
      simp [hA]
theorem thM_get (A B : Mx) (N k : Nat) (i j : Nat) (hj : j < N) : thM A B N k i j = (decide (i < k) && (List.range N).any fun c => A i c && B c j) := by
  induction k with
  | zero => simp [thM]
  | succ k ih =>
    rw [thM_succ, t3M_get _ _ _ _ _ _ _ _ hj, ih]
    by_cases hi : i = k
    · subst hi; simp
    · have : decide (i < k) = decide (i < k + 1) := by rw [decide_eq_decide]; omega
      rw [this]; simp [hi]
theorem Wf.mono {n m : Nat} (h : n ≤ m) {R : Rw} (hR : Wf n R) : Wf m R := fun a b hh => by obtain ⟨h1, h2⟩ := hR a b hh; omega
end Go.Ab
end
section
set_option linter.unusedVariables false
set_option linter.unusedSimpArgs false
namespace Go.Ab
noncomputable def vRaw (F : Funs) (al : Nat → Bool) (id : Nat) (f : AV) (args : List AV) (g : G) : Option (AV × G) := vCall (callS F) al id .raw f args g
theorem o_raw {F : Funs} {al lo id e g} (f : Opd) (asx : List Opd) : opE (callS F) al lo id (.call .raw f asx) e g = vRaw F al id (f.ev e) (asx.map (·.ev e)) g := rfl
theorem vRaw_fn {F : Funs} {al id fid fst caps args g} : vRaw F al id (.fn fid fst caps) args g = callS F fid (fst ++ args ++ caps) g := rfl
theorem bindO_call {F : Funs} {d b j dst os e K fid asx g} (P : AV → G → Prop) (h : ∃ v g', callS F fid asx g = some (v, g') ∧ P v g') (hk : ∀ v g', P v g' → WR F d b j os (put e dst v) g' K) : bindO F d b j dst os e K (callS F fid asx g) := by
  obtain ⟨v, g', h1, h2⟩ := h
  rw [h1]
  exact hk v g' h2
def retP (rs : List ARes) (P : AV → G → Prop) : Out → Env → G → Prop
  | .ext _, _, _ => False
  | _, e, g => ∃ v, resE rs e g = some v ∧ P v g
theorem retP_nrm {rs P e g} : retP rs P .nrm e g = (∃ v, resE rs e g = some v ∧ P v g) := rfl
theorem retP_ret {rs P e g} : retP rs P .ret e g = (∃ v, resE rs e g = some v ∧ P v g) := rfl
theorem raw_of {F : Funs} {f : Nat} {fn : AFun} {asx : List AV} {g : G} {P : AV → G → Prop} (hF : F f = some fn) (h : W F fn.body (argEnv asx) g (retP fn.res P)) : ∃ v g', callS F f asx g = some (v, g') ∧ P v g' := by
  obtain ⟨o, e, g', h1, h2⟩ := h
  rw [callS_eq, hF]
  simp only [h1]
  cases o with
  | ext n => exact h2.elim
  | nrm =>
    obtain ⟨v, h3, h4⟩ := h2
    exact ⟨v, g', by simp only [h3, Option.map_some], h4⟩
  | ret =>
    obtain ⟨v, h3, h4⟩ := h2
    exact ⟨v, g', by simp only [h3, Option.map_some], h4⟩
theorem res_0 (e g) : resE [] e g = some (.tup []) := rfl
def mgS (k : ByteArray) (g : G) : Option Blk → Option (AV × G)
  | some (.map es) => vMap g (mlook es k)
  | _ => none
theorem o_mget {c : CS} {al : Nat → Bool} {lo id : Nat} {e : Env} {g : G} (m k) : opE c al lo id (.mget m k) e g = vMget al (m.ev e) (k.ev e) g := rfl
theorem vMget_S {al : Nat → Bool} {g : G} (b k) : vMget al (.mm b) (.s k) g = mgS k g (selB (al b) (g.hp b)) := by
  simp only [vMget, rd_S]
  cases selB (al b) (g.hp b) with
  | none => rfl
  | some bl => cases bl <;> rfl
theorem mgS_map (k g es) : mgS k g (some (.map es)) = vMap g (mlook es k) := rfl
theorem o_mkmap {c : CS} {al : Nat → Bool} {lo id : Nat} {e : Env} {g : G} : opE c al lo id .mkmap e g = some (.mm id, ⟨upd g.hp id (some (.map [])), g.nx⟩) := rfl
theorem o_mput {c : CS} {al : Nat → Bool} {lo id : Nat} {e : Env} {g : G} (m k v) : opE c al lo id (.mput m k v) e g = vMput al (m.ev e) (k.ev e) (v.ev e) g := rfl
def mpO (b : Nat) (k : ByteArray) (v : AV) (es : List (AV × AV)) (g : G) (x : Bool) : Option AV → Option (AV × G)
  | none => if x then some (.undef, ⟨upd g.hp b (some (.map (es ++ [(.s k, v)]))), g.nx⟩) else none
  | some _ => none
def mpS (b : Nat) (k : ByteArray) (v : AV) (g : G) (x : Bool) : Option Blk → Option (AV × G)
  | some (.map es) => mpO b k v es g x (mlook es k)
  | _ => none
theorem vMput_S {al : Nat → Bool} {g : G} (b k v) : vMput al (.mm b) (.s k) v g = mpS b k v g (one v) (selB (al b) (g.hp b)) := by
  simp only [vMput, rd_S]
  cases selB (al b) (g.hp b) with
  | none => rfl
  | some bl =>
    cases bl with
    | map es => simp only [mpS]; cases mlook es k <;> rfl
    | cells _ _ => rfl
    | tok _ => rfl
theorem mpS_map (b k v g x es) : mpS b k v g x (some (.map es)) = mpO b k v es g x (mlook es k) := rfl
theorem mpO_none (b k v es g) : mpO b k v es g true none = some (.undef, ⟨upd g.hp b (some (.map (es ++ [(.s k, v)]))), g.nx⟩) := rfl
theorem frz_d_agg {hp cs ds} (h : frzL hp 8 cs = some ds) : frz hp depth (.agg cs) = some (.agg ds) := by
  show frz hp (8 + 1) _ = _
  simp only [frz, h, Option.map_some]
end Go.Ab
end
section
set_option linter.unusedVariables false
set_option linter.unusedSimpArgs false
namespace Go.Ab
structure Ev where
  th : Int
  kd : Int
  md : Int
  lc : Int
  vl : Int
  ex : Bool
structure Gr where
  locs : Int
  evs : List Ev
  rf : List Int
  co : List (List Int)
  rmw : List (Int × Int)
  data : List (Int × Int)
  ctrl : List (Int × Int)
  ctrli : List (Int × Int)
def ev0 : Ev := ⟨0, 0, 0, 0, 0, false⟩
def evC (e : Ev) : List AV := [.i .i64 e.th, .i .i64 e.kd, .i .i64 e.md, .i .i64 e.lc, .i .i64 e.vl, .b e.ex]
def evsC (l : List Ev) : List AV := l.flatMap evC
def coC (l : List (List Int)) : List AV := l.map fun c => .sl (intsC c) c.length .non
def grC (g : Gr) : List AV := [.i .i64 g.locs, .sl (evsC g.evs) g.evs.length .non, .sl (intsC g.rf) g.rf.length .non, .sl (coC g.co) g.co.length .non,
  .sl (pairsC g.rmw) g.rmw.length .non, .sl (pairsC g.data) g.data.length .non, .sl (pairsC g.ctrl) g.ctrl.length .non, .sl (pairsC g.ctrli) g.ctrli.length .non]
theorem evsC_len (l : List Ev) : (evsC l).length = l.length * 6 := by
  induction l with
  | nil => rfl
  | cons p l ih => simp only [evsC, List.flatMap_cons, List.length_append, List.length_cons, evC, List.length_nil] at ih ⊢; omega
theorem ev_part : ∀ {l : List Ev} {k : Nat} (h : k < l.length), part ((evsC l).drop (k * 6)) 0 (some 6) = some (.agg (evC (l.getD k ev0)))
  | p :: l, 0, _ => by simp [evsC, part, evC]
  | p :: l, k + 1, h => by
    have := ev_part (l := l) (k := k) (by simpa using h)
    simp only [List.getD_cons_succ]
    rw [← this]
    simp [evsC, Nat.succ_mul, evC]
theorem coC_len (l : List (List Int)) : (coC l).length = l.length := by simp [coC]
theorem co_part {l : List (List Int)} {k : Nat} (h : k < l.length) : part ((coC l).drop (k * 1)) 0 none = some (.sl (intsC (l.getD k [])) (l.getD k []).length .non) := by
  simp only [part, coC, List.getElem?_drop, Nat.mul_one, Nat.add_zero, List.getElem?_map, List.getElem?_eq_getElem h, Option.map_some, List.getD_eq_getElem?_getD, Option.getD_some]
theorem splice_ev (e : Ev) : splice (List.replicate 5 (AV.i .i64 0) ++ [.b false]) 0 (evC e) = evC e := rfl
theorem part_22 (a b : AV) : part [a, b] 0 (some 2) = some (.agg [a, b]) := rfl
theorem evC_len (e : Ev) : (evC e).length = 6 := rfl
theorem evC_one (e : Ev) : (evC e).all one = true := rfl
theorem evC_flat (e : Ev) : (evC e).all flat = true := rfl
theorem evC_all (e : Ev) : part (evC e) 0 (some 6) = some (.agg (evC e)) := rfl
theorem ev_th (e : Ev) : part (evC e) 0 none = some (.i .i64 e.th) := rfl
theorem ev_kd (e : Ev) : part (evC e) 1 none = some (.i .i64 e.kd) := rfl
theorem ev_md (e : Ev) : part (evC e) 2 none = some (.i .i64 e.md) := rfl
theorem ev_lc (e : Ev) : part (evC e) 3 none = some (.i .i64 e.lc) := rfl
theorem ev_vl (e : Ev) : part (evC e) 4 none = some (.i .i64 e.vl) := rfl
theorem ev_ex (e : Ev) : part (evC e) 5 none = some (.b e.ex) := rfl
theorem grC_len (g : Gr) : (grC g).length = 8 := rfl
theorem grC_one (g : Gr) : (grC g).all one = true := rfl
theorem grC_all (g : Gr) : part (grC g) 0 (some 8) = some (.agg (grC g)) := rfl
theorem gr_locs (g : Gr) : part (grC g) 0 none = some (.i .i64 g.locs) := rfl
theorem gr_evs (g : Gr) : part (grC g) 1 none = some (.sl (evsC g.evs) g.evs.length .non) := rfl
theorem gr_rf (g : Gr) : part (grC g) 2 none = some (.sl (intsC g.rf) g.rf.length .non) := rfl
theorem gr_co (g : Gr) : part (grC g) 3 none = some (.sl (coC g.co) g.co.length .non) := rfl
theorem gr_rmw (g : Gr) : part (grC g) 4 none = some (.sl (pairsC g.rmw) g.rmw.length .non) := rfl
theorem gr_data (g : Gr) : part (grC g) 5 none = some (.sl (pairsC g.data) g.data.length .non) := rfl
theorem gr_ctrl (g : Gr) : part (grC g) 6 none = some (.sl (pairsC g.ctrl) g.ctrl.length .non) := rfl
theorem gr_ctrli (g : Gr) : part (grC g) 7 none = some (.sl (pairsC g.ctrli) g.ctrli.length .non) := rfl
theorem frz_gr (hp) (g : Gr) : frz hp depth (.agg (grC g)) = some (.agg (grC g)) := by
  refine frz_d_agg ?_
  show frzL hp (7 + 1) _ = _
  simp only [grC, frzL, frz]
theorem frz_ev (hp) (e : Ev) : frz hp depth (.agg (evC e)) = some (.agg (evC e)) := frz_d_agg (frzL_flat (d := 7) (evC_flat e))
theorem vis_gr (hp) (g : Gr) : vis hp depth (.agg (grC g)) = [] := by
  show vis hp (8 + 1) _ = _
  simp only [vis, grC, List.flatMap_cons, List.flatMap_nil, List.nil_append, List.append_nil]
theorem vis_ev (hp) (e : Ev) : vis hp depth (.agg (evC e)) = [] := by
  show vis hp (8 + 1) _ = _
  simp only [vis, evC, List.flatMap_cons, List.flatMap_nil, List.nil_append, List.append_nil]
set_option maxRecDepth 10000 in
theorem gl : type_of% (And.intro (And.intro (And.intro (And.intro (And.intro @evC_len @evC_one) (And.intro @evC_flat (And.intro @evC_all @ev_th))) (And.intro (And.intro @ev_kd @ev_md) (And.intro @ev_lc (And.intro @ev_vl @ev_ex)))) (And.intro (And.intro (And.intro @grC_len @grC_one) (And.intro @grC_all (And.intro @gr_locs @gr_evs))) (And.intro (And.intro @gr_rf (And.intro @gr_co @gr_rmw)) (And.intro @gr_data (And.intro @gr_ctrl @gr_ctrli))))) (And.intro (And.intro (And.intro (And.intro @frz_gr @frz_ev) (And.intro @vis_gr (And.intro @vis_ev @splice_ev))) (And.intro (And.intro @evsC_len @coC_len) (And.intro @o_raw (And.intro @vRaw_fn @res_0)))) (And.intro (And.intro (And.intro @retP_nrm @retP_ret) (And.intro @o_mget (And.intro @vMget_S @mgS_map))) (And.intro (And.intro @o_mkmap (And.intro @o_mput @vMput_S)) (And.intro @mpS_map (And.intro @mpO_none @part_22)))))) := (And.intro (And.intro (And.intro (And.intro (And.intro @evC_len @evC_one) (And.intro @evC_flat (And.intro @evC_all @ev_th))) (And.intro (And.intro @ev_kd @ev_md) (And.intro @ev_lc (And.intro @ev_vl @ev_ex)))) (And.intro (And.intro (And.intro @grC_len @grC_one) (And.intro @grC_all (And.intro @gr_locs @gr_evs))) (And.intro (And.intro @gr_rf (And.intro @gr_co @gr_rmw)) (And.intro @gr_data (And.intro @gr_ctrl @gr_ctrli))))) (And.intro (And.intro (And.intro (And.intro @frz_gr @frz_ev) (And.intro @vis_gr (And.intro @vis_ev @splice_ev))) (And.intro (And.intro @evsC_len @coC_len) (And.intro @o_raw (And.intro @vRaw_fn @res_0)))) (And.intro (And.intro (And.intro @retP_nrm @retP_ret) (And.intro @o_mget (And.intro @vMget_S @mgS_map))) (And.intro (And.intro @o_mkmap (And.intro @o_mput @vMput_S)) (And.intro @mpS_map (And.intro @mpO_none @part_22))))))
end Go.Ab
end
section
set_option linter.unusedVariables false
set_option linter.unusedSimpArgs false
namespace Go.Ab
variable {F : Funs}
set_option maxRecDepth 100000 in
theorem sp_of (h81 : F 81 = some A_graph_Of) (pr : Pk_rel F) (G : Gr) (l : List (Int × Int)) (t : Tok) (hl : l.length < 9000000000000000000) : pureS F 81 [.agg (grC G), .sl (pairsC l) l.length t] = some (.ptr (relC (clamp G.evs.length) (newR (clamp G.evs.length) l))) := by
  refine pure_of h81 ?_
  simp (disch := omega) only [A_graph_Of, wp, Nat.reduceAdd, Nat.reduceMul, Nat.reduceSub, gl, sp_new pr _ l _ hl]
structure EcoSt (X : Gr) (l : List (Int × Int)) (g : G) : Prop where
  gr : g.hp 0 = some (.cells (grC X) false)
  put : ∃ t, g.hp 2 = some (.cells [.sl (pairsC l) l.length t] false) ∧ Live g 2 t
  f4 : g.hp 4 = some (.cells [.fn 92 [] [.mp 2 0]] false)
  f7 : g.hp 7 = some (.cells [.fn 93 [] [.mp 0 0, .mp 4 0]] false)
  m9 : g.hp 9 = some (.map [(.s ⟨#[114, 102]⟩, .fn 94 [] [.mp 4 0]), (.s ⟨#[99, 111]⟩, .fn 95 [] [.mp 7 0]), (.s ⟨#[102, 114]⟩, .fn 96 [] [.mp 7 0])])
  nx : 9 < g.nx
def Kept (g g' : G) : Prop := g.nx ≤ g'.nx ∧ ∀ i, 9 < i → i < g.nx → CM (g.hp i) → g'.hp i = g.hp i
theorem Kept.refl (g : G) : Kept g g := ⟨Nat.le_refl _, fun _ _ _ _ => rfl⟩
theorem Kept.trans {g g1 g2 : G} (h : Kept g g1) (k : Kept g1 g2) : Kept g g2 := ⟨Nat.le_trans h.1 k.1, fun i h1 h2 h3 => by
  have e := h.2 i h1 h2 h3
  rw [← e]
  exact k.2 i h1 (Nat.lt_of_lt_of_le h2 h.1) (by rw [e]; exact h3)⟩
theorem EcoSt.same {X : Gr} {l : List (Int × Int)} {g g' : G} (h : EcoSt X l g) (k : Kept g g') (h9 : ∀ i, i ≤ 9 → g'.hp i = g.hp i) (ht : ∀ i b, g.hp i = some (.tok b) → g'.hp i = g.hp i) : EcoSt X l g' := by
  obtain ⟨t, h1, h2⟩ := h.put
  refine ⟨by rw [h9 0 (by omega)]; exact h.gr, ⟨t, by rw [h9 2 (by omega)]; exact h1, ?_⟩, by rw [h9 4 (by omega)]; exact h.f4, by rw [h9 7 (by omega)]; exact h.f7, by rw [h9 9 (by omega)]; exact h.m9, Nat.lt_of_lt_of_le h.nx k.1⟩
  rcases h2 with rfl | ⟨τ, rfl, hτ, hlt⟩
  · exact .inl rfl
  · exact .inr ⟨τ, rfl, by rw [ht τ _ hτ]; exact hτ, Nat.lt_of_lt_of_le hlt k.1⟩
set_option maxRecDepth 100000 in
theorem sp_put (h92 : F 92 = some A_eco_pairs_1) {X : Gr} {l : List (Int × Int)} {g : G} (S : EcoSt X l g) (hl : l.length < 1099511627776) (a b : Int) :
    ∃ v g', callS F 92 [.i .i64 a, .i .i64 b, .mp 2 0] g = some (v, g') ∧ EcoSt X (l ++ [(a, b)]) g' ∧ Kept g g' := by
  refine raw_of (P := fun v g' => EcoSt X (l ++ [(a, b)]) g' ∧ Kept g g') h92 ?_
  obtain ⟨t, hp, ht⟩ := S.put
  have hnx := S.nx
  have h0 := S.gr; have h4 := S.f4; have h7 := S.f7; have h9 := S.m9
  rcases ht with rfl | ⟨τ, rfl, hτ, hlt⟩
  · simp (disch := omega) only [A_eco_pairs_1, wp, Nat.reduceAdd, Nat.reduceMul, Nat.reduceSub, gl, hp, pairsC_len]
    refine ⟨_, rfl, ?_, ?_⟩
    · refine ⟨?_, ⟨.own (g.nx + 5) 2, ?_, ?_⟩, ?_, ?_, ?_, by dsimp only; omega⟩
      · simp (disch := omega) only [upd_ne]; exact h0
      · simp (disch := omega) only [upd_same, pairsC_app, pairsC_one, List.length_append]; rfl
      · exact .inr ⟨_, rfl, by simp (disch := omega) only [upd_same, upd_ne], by dsimp only; omega⟩
      · simp (disch := omega) only [upd_ne]; exact h4
      · simp (disch := omega) only [upd_ne]; exact h7
      · simp (disch := omega) only [upd_ne]; exact h9
    · refine ⟨by dsimp only; omega, fun i i1 i2 i3 => ?_⟩
      simp (disch := omega) only [upd_ne]
  · have n0 : τ ≠ 0 := fun h => by rw [h, h0] at hτ; cases hτ
    have n2 : τ ≠ 2 := fun h => by rw [h, hp] at hτ; cases hτ
    have n4 : τ ≠ 4 := fun h => by rw [h, h4] at hτ; cases hτ
    have n7 : τ ≠ 7 := fun h => by rw [h, h7] at hτ; cases hτ
    have n9 : τ ≠ 9 := fun h => by rw [h, h9] at hτ; cases hτ
    simp (disch := omega) only [A_eco_pairs_1, wp, Nat.reduceAdd, Nat.reduceMul, Nat.reduceSub, gl, hp, pairsC_len, hτ]
    refine ⟨_, rfl, ?_, ?_⟩
    · refine ⟨?_, ⟨.own (g.nx + 5) 2, ?_, ?_⟩, ?_, ?_, ?_, by dsimp only; omega⟩
      · simp (disch := omega) only [upd_ne]; exact h0
      · simp (disch := omega) only [upd_same, pairsC_app, pairsC_one, List.length_append]; rfl
      · exact .inr ⟨_, rfl, by simp (disch := omega) only [upd_same, upd_ne], by dsimp only; omega⟩
      · simp (disch := omega) only [upd_ne]; exact h4
      · simp (disch := omega) only [upd_ne]; exact h7
      · simp (disch := omega) only [upd_ne]; exact h9
    · refine ⟨by dsimp only; omega, fun i i1 i2 i3 => ?_⟩
      have : i ≠ τ := fun h => by rw [h, hτ] at i3; exact i3
      simp (disch := omega) only [upd_ne]
end Go.Ab
end
section
set_option linter.unusedVariables false
set_option linter.unusedSimpArgs false
namespace Go.Ab
variable {F : Funs}
def aftS (w : Int) (p : List Int × Bool) (i : Int) : List Int × Bool := (if p.2 then p.1 ++ [i] else p.1, p.2 || i == w)
def aft (w : Int) (c : List Int) : List Int × Bool := c.foldl (aftS w) ([], false)
def behL (a w : Int) (co : List (List Int)) : List (Int × Int) := co.flatMap fun c => (aft w c).1.map fun i => (a, i)
theorem aft_take {w : Int} {c : List Int} {k : Nat} (h : k < c.length) : aft w (c.take (k + 1)) = aftS w (aft w (c.take k)) (c.getD k 0) := by
  unfold aft
  rw [List.take_add_one, List.foldl_append, List.getElem?_eq_getElem h, List.getD_eq_getElem?_getD, List.getElem?_eq_getElem h]
  rfl
theorem behL_take {a w : Int} {co : List (List Int)} {k : Nat} (h : k < co.length) : behL a w (co.take (k + 1)) = behL a w (co.take k) ++ (aft w (co.getD k [])).1.map (fun i => (a, i)) := by
  unfold behL
  rw [List.take_add_one, List.flatMap_append, List.getElem?_eq_getElem h, List.getD_eq_getElem?_getD, List.getElem?_eq_getElem h]
  simp
theorem aft_len (w : Int) (c : List Int) : (aft w c).1.length ≤ c.length := by
  have key : ∀ (c : List Int) (p : List Int × Bool), (c.foldl (aftS w) p).1.length ≤ p.1.length + c.length := by
    intro c
    induction c with
    | nil => intro p; simp
    | cons i c ih =>
      intro p
      rw [List.foldl_cons]
      have := ih (aftS w p i)
      have h2 : (aftS w p i).1.length ≤ p.1.length + 1 := by unfold aftS; split <;> simp
      simp only [List.length_cons]; omega
  have := key c ([], false)
  unfold aft
  simpa using this
theorem behL_len (a w : Int) (co : List (List Int)) {b : Nat} (h : ∀ c ∈ co, c.length ≤ b) : (behL a w co).length ≤ co.length * b := by
  induction co with
  | nil => simp [behL]
  | cons c co ih =>
    have h1 := ih fun d hd => h d (List.mem_cons_of_mem _ hd)
    have h2 := aft_len w c
    have h3 := h c (List.mem_cons_self ..)
    unfold behL at h1 ⊢
    rw [List.flatMap_cons, List.length_append, List.length_map, List.length_cons, Nat.succ_mul]
    omega
theorem EcoSt.on {X : Gr} {l : List (Int × Int)} {g : G} (h : EcoSt X l g) {n : Nat} (hn : g.nx ≤ n) : EcoSt X l ⟨g.hp, n⟩ :=
  h.same ⟨hn, fun _ _ _ _ => rfl⟩ (fun _ _ => rfl) (fun _ _ _ => rfl)
theorem Kept.on {g g' : G} (h : Kept g g') {n : Nat} (hn : g'.nx ≤ n) : Kept g ⟨g'.hp, n⟩ := ⟨Nat.le_trans h.1 hn, h.2⟩
theorem Kept.from {g g' : G} {n : Nat} (hn : g.nx ≤ n) (h : Kept ⟨g.hp, n⟩ g') : Kept g g' := ⟨Nat.le_trans hn h.1, fun i h1 h2 h3 => h.2 i h1 (Nat.lt_of_lt_of_le h2 hn) h3⟩
set_option maxRecDepth 100000 in
set_option maxHeartbeats 4000000 in
theorem sp_behind (h93 : F 93 = some A_eco_pairs_2) (h92 : F 92 = some A_eco_pairs_1) {X : Gr} {l : List (Int × Int)} {g : G} (S : EcoSt X l g) (hl : l.length < 1000000) (hco : X.co.length ≤ 1000 ∧ ∀ c ∈ X.co, c.length ≤ 1000) (a w : Int) :
    ∃ v g', callS F 93 [.i .i64 a, .i .i64 w, .mp 0 0, .mp 4 0] g = some (v, g') ∧ EcoSt X (l ++ behL a w X.co) g' ∧ Kept g g' := by
  refine raw_of (P := fun v g' => EcoSt X (l ++ behL a w X.co) g' ∧ Kept g g') h93 ?_
  have h0 := S.gr
  have hnx := S.nx
  simp (disch := omega) only [A_eco_pairs_2, wp, Nat.reduceAdd, Nat.reduceMul, Nat.reduceSub, gl, h0]
  refine W_loop (fun q e g1 => ∃ k, q = X.co.length - k ∧ k ≤ X.co.length ∧ e 0 = .i .i64 a ∧ e 1 = .i .i64 w ∧ e 3 = .mp 4 0 ∧ e 12 = .sl (coC X.co) X.co.length .non ∧ e 13 = .i .i64 X.co.length ∧ e 14 = .i .i64 k ∧ EcoSt X (l ++ behL a w (X.co.take k)) g1 ∧ Kept g g1) X.co.length ?_ ?_
  · refine ⟨0, rfl, Nat.zero_le _, ?_⟩
    simp (disch := omega) only [wp, Nat.reduceAdd, Nat.reduceMul, Nat.reduceSub]
    refine ⟨rfl, ?_, (Kept.refl g).on (by omega)⟩
    have : l ++ behL a w (List.take 0 X.co) = l := by simp [behL]
    rw [this]
    exact S.on (by omega)
  · rintro q e g1 ⟨k, rfl, hk, e0, e1, e3, e12, e13, e14, S1, K1⟩
    by_cases hk' : k < X.co.length
    · have hk1 : (k : Int) < X.co.length := by omega
      have hwk := succ_wrap (k := k) (by omega)
      have hcp := co_part hk'
      have hbt := behL_take (a := a) (w := w) hk'
      have hcl : (X.co.getD k []).length ≤ 1000 := hco.2 _ (by rw [List.getD_eq_getElem?_getD, List.getElem?_eq_getElem hk']; exact List.getElem_mem hk')
      have hbl : (behL a w (X.co.take k)).length ≤ 1000000 := by
        have h1 := behL_len a w (X.co.take k) (b := 1000) fun c hc => hco.2 c (List.mem_of_mem_take hc)
        rw [List.length_take] at h1
        have h2 : min k X.co.length * 1000 ≤ 1000 * 1000 := Nat.mul_le_mul (by omega) (Nat.le_refl _)
        omega
      generalize X.co.getD k [] = c at hcp hbt hcl
      generalize behL a w (X.co.take k) = B at S1 hbt hbl
      simp (disch := omega) only [wp, Nat.reduceAdd, Nat.reduceMul, Nat.reduceSub, gl, e0, e1, e3, e12, e13, e14, hk1, hcp]
      refine W_loop (fun q e g2 => ∃ j, q = c.length - j ∧ j ≤ c.length ∧ e 0 = .i .i64 a ∧ e 1 = .i .i64 w ∧ e 3 = .mp 4 0 ∧ e 12 = .sl (coC X.co) X.co.length .non ∧ e 13 = .i .i64 X.co.length ∧ e 14 = .i .i64 k ∧ e 18 = .sl (intsC c) c.length .non ∧ e 19 = .i .i64 c.length ∧ e 20 = .i .i64 j ∧ e 8 = .b (aft w (c.take j)).2 ∧ EcoSt X (l ++ B ++ (aft w (c.take j)).1.map fun i => (a, i)) g2 ∧ Kept g g2) c.length ?_ ?_
      · refine ⟨0, rfl, Nat.zero_le _, ?_⟩
        simp (disch := omega) only [wp, Nat.reduceAdd, Nat.reduceMul, Nat.reduceSub, e0, e1, e3, e12, e13, e14]
        refine ⟨rfl, rfl, ?_, K1.on (by omega)⟩
        have : l ++ B ++ (aft w (List.take 0 c)).1.map (fun i => (a, i)) = l ++ B := by simp [aft]
        rw [this]
        exact S1.on (by omega)
      · rintro q e g2 ⟨j, rfl, hj, e0, e1, e3, e12, e13, e14, e18, e19, e20, e8, S2, K2⟩
        by_cases hj' : j < c.length
        · have hj1 : (j : Int) < c.length := by omega
          have hwj := succ_wrap (k := j) (by omega)
          have hip := ints_part hj'
          have hat := aft_take (w := w) hj'
          have hal := aft_len w (c.take j)
          rw [List.length_take] at hal
          generalize c.getD j 0 = i at hip hat
          generalize aft w (c.take j) = p at hat e8 S2 hal
          obtain ⟨acc, s⟩ := p
          simp only at e8 S2 hal
          have hL : (l ++ B ++ acc.map fun i => (a, i)).length < 1099511627776 := by
            rw [List.length_append, List.length_append, List.length_map]; omega
          cases s with
          | true =>
            have f4 := S2.f4
            have n2 := S2.nx
            simp (disch := omega) only [wp, Nat.reduceAdd, Nat.reduceMul, Nat.reduceSub, gl, e0, e1, e3, e12, e13, e14, e18, e19, e20, e8, hj1, hip, f4]
            refine bindO_call _ (sp_put h92 (S2.on (n := _) (by omega)) hL a i) ?_
            rintro v g3 ⟨S3, K3⟩
            simp (disch := omega) only [wp, Nat.reduceAdd, Nat.reduceMul, Nat.reduceSub, gl, e0, e1, e3, e12, e13, e14, e18, e19, e20, e8, hwj]
            have n3 := K3.1
            dsimp only at n3
            refine ⟨c.length - (j + 1), by omega, j + 1, rfl, by omega, rfl, ?_, ?_, ((K2.trans (K3.from (by omega))).on (by first | omega | (dsimp only; omega)))⟩
            · rw [hat]; rfl
            · rw [hat]
              simp only [aftS, if_true, List.map_append, List.map_cons, List.map_nil]
              rw [← List.append_assoc]
              exact S3.on (by first | omega | (dsimp only; omega))
          | false =>
            simp (disch := omega) only [wp, Nat.reduceAdd, Nat.reduceMul, Nat.reduceSub, gl, e0, e1, e3, e12, e13, e14, e18, e19, e20, e8, hj1, hip, hwj]
            refine ⟨c.length - (j + 1), by omega, j + 1, rfl, by omega, rfl, ?_, ?_, K2.on (by first | omega | (dsimp only; omega))⟩
            · rw [hat]; simp [aftS]
            · rw [hat]
              simp only [aftS, Bool.false_eq_true, if_false]
              exact S2.on (by first | omega | (dsimp only; omega))
        · obtain rfl : j = c.length := by omega
          have hj1 : ¬ ((c.length : Int) < c.length) := by omega
          simp (disch := omega) only [wp, Nat.reduceAdd, Nat.reduceMul, Nat.reduceSub, gl, e0, e1, e3, e12, e13, e14, e18, e19, e20, e8, hj1, hwk]
          refine ⟨X.co.length - (k + 1), by omega, k + 1, rfl, by omega, rfl, ?_, K2.on (by first | omega | (dsimp only; omega))⟩
          rw [hbt, ← List.append_assoc]
          rw [List.take_length] at S2
          exact S2.on (by first | omega | (dsimp only; omega))
    · obtain rfl : k = X.co.length := by omega
      have hk1 : ¬ ((X.co.length : Int) < X.co.length) := by omega
      simp (disch := omega) only [wp, Nat.reduceAdd, Nat.reduceMul, Nat.reduceSub, gl, e0, e1, e3, e12, e13, e14, hk1]
      rw [List.take_length] at S1
      exact ⟨_, rfl, S1.on (by first | omega | (dsimp only; omega)), K1.on (by first | omega | (dsimp only; omega))⟩
end Go.Ab
end
section
set_option linter.unusedVariables false
set_option linter.unusedSimpArgs false
namespace Go.Ab
variable {F : Funs}
theorem EcoSt.grow {X : Gr} {l : List (Int × Int)} {g g' : G} (h : EcoSt X l g) (hn : g.nx ≤ g'.nx) (ho : ∀ i, i < g.nx → g'.hp i = g.hp i) : EcoSt X l g' ∧ Kept g g' := by
  have h9 := h.nx
  obtain ⟨t, h1, h2⟩ := h.put
  refine ⟨⟨by rw [ho 0 (by omega)]; exact h.gr, ⟨t, by rw [ho 2 (by omega)]; exact h1, ?_⟩, by rw [ho 4 (by omega)]; exact h.f4, by rw [ho 7 (by omega)]; exact h.f7, by rw [ho 9 (by omega)]; exact h.m9, by omega⟩, hn, fun i _ hi _ => ho i hi⟩
  rcases h2 with rfl | ⟨τ, rfl, hτ, hlt⟩
  · exact .inl rfl
  · exact .inr ⟨τ, rfl, by rw [ho τ hlt]; exact hτ, by omega⟩
def rfS (i w : Int) (e : Ev) : List (Int × Int) := if e.kd = 1 then [(w, i)] else []
def coS (co : List (List Int)) (i w : Int) (e : Ev) : List (Int × Int) := if e.kd = 2 then behL i i co else []
def frS (co : List (List Int)) (i w : Int) (e : Ev) : List (Int × Int) := if e.kd = 1 then behL i w co else []
set_option maxRecDepth 100000 in
theorem sp_94 (h94 : F 94 = some A_eco_pairs_3) (h92 : F 92 = some A_eco_pairs_1) {X : Gr} {l : List (Int × Int)} {g : G} (S : EcoSt X l g) (hl : l.length < 1000000) (i w : Int) (e : Ev) :
    ∃ v g', callS F 94 [.i .i64 i, .i .i64 w, .agg (evC e), .mp 4 0] g = some (v, g') ∧ EcoSt X (l ++ rfS i w e) g' ∧ Kept g g' := by
  refine raw_of (P := fun v g' => EcoSt X (l ++ rfS i w e) g' ∧ Kept g g') h94 ?_
  have hnx := S.nx
  have f4 := S.f4
  have grow := fun (n : Nat) (hn : g.nx ≤ n) => S.grow (g' := ⟨upd g.hp g.nx (some (.cells (evC e) false)), n⟩) hn fun i hi => by
    show upd _ _ _ _ = _
    rw [upd_ne _ _ (by omega)]
  by_cases hk : e.kd = 1
  · have hk1 : (e.kd == 1) = true := by simp [hk]
    simp (disch := omega) only [A_eco_pairs_3, wp, Nat.reduceAdd, Nat.reduceMul, Nat.reduceSub, gl, hk1, f4]
    obtain ⟨S1, K1⟩ := grow (g.nx + 1 + 3 + 4) (by omega)
    refine bindO_call _ (sp_put h92 S1 (by omega) w i) ?_
    rintro v g3 ⟨S3, K3⟩
    simp (disch := omega) only [wp, Nat.reduceAdd, Nat.reduceMul, Nat.reduceSub, gl]
    have : rfS i w e = [(w, i)] := if_pos hk
    rw [this]
    exact ⟨_, rfl, S3, K1.trans K3⟩
  · have hk1 : (e.kd == 1) = false := by simp [hk]
    simp (disch := omega) only [A_eco_pairs_3, wp, Nat.reduceAdd, Nat.reduceMul, Nat.reduceSub, gl, hk1, f4]
    have : l ++ rfS i w e = l := by rw [rfS, if_neg hk]; simp
    rw [this]
    exact ⟨_, rfl, (grow _ (by omega)).1, (grow _ (by omega)).2⟩
set_option maxRecDepth 100000 in
theorem sp_95 (h95 : F 95 = some A_eco_pairs_4) (h93 : F 93 = some A_eco_pairs_2) (h92 : F 92 = some A_eco_pairs_1) {X : Gr} {l : List (Int × Int)} {g : G} (S : EcoSt X l g) (hl : l.length < 1000000) (hco : X.co.length ≤ 1000 ∧ ∀ c ∈ X.co, c.length ≤ 1000) (i w : Int) (e : Ev) :
    ∃ v g', callS F 95 [.i .i64 i, .i .i64 w, .agg (evC e), .mp 7 0] g = some (v, g') ∧ EcoSt X (l ++ coS X.co i w e) g' ∧ Kept g g' := by
  refine raw_of (P := fun v g' => EcoSt X (l ++ coS X.co i w e) g' ∧ Kept g g') h95 ?_
  have hnx := S.nx
  have f7 := S.f7
  have grow := fun (n : Nat) (hn : g.nx ≤ n) => S.grow (g' := ⟨upd g.hp g.nx (some (.cells (evC e) false)), n⟩) hn fun i hi => by
    show upd _ _ _ _ = _
    rw [upd_ne _ _ (by omega)]
  by_cases hk : e.kd = 2
  · have hk1 : (e.kd == 2) = true := by simp [hk]
    simp (disch := omega) only [A_eco_pairs_4, wp, Nat.reduceAdd, Nat.reduceMul, Nat.reduceSub, gl, hk1, f7]
    obtain ⟨S1, K1⟩ := grow (g.nx + 1 + 3 + 4) (by omega)
    refine bindO_call _ (sp_behind h93 h92 S1 hl hco i i) ?_
    rintro v g3 ⟨S3, K3⟩
    simp (disch := omega) only [wp, Nat.reduceAdd, Nat.reduceMul, Nat.reduceSub, gl]
    have : coS X.co i w e = behL i i X.co := if_pos hk
    rw [this]
    exact ⟨_, rfl, S3, K1.trans K3⟩
  · have hk1 : (e.kd == 2) = false := by simp [hk]
    simp (disch := omega) only [A_eco_pairs_4, wp, Nat.reduceAdd, Nat.reduceMul, Nat.reduceSub, gl, hk1, f7]
    have : l ++ coS X.co i w e = l := by rw [coS, if_neg hk]; simp
    rw [this]
    exact ⟨_, rfl, (grow _ (by omega)).1, (grow _ (by omega)).2⟩
set_option maxRecDepth 100000 in
theorem sp_96 (h96 : F 96 = some A_eco_pairs_5) (h93 : F 93 = some A_eco_pairs_2) (h92 : F 92 = some A_eco_pairs_1) {X : Gr} {l : List (Int × Int)} {g : G} (S : EcoSt X l g) (hl : l.length < 1000000) (hco : X.co.length ≤ 1000 ∧ ∀ c ∈ X.co, c.length ≤ 1000) (i w : Int) (e : Ev) :
    ∃ v g', callS F 96 [.i .i64 i, .i .i64 w, .agg (evC e), .mp 7 0] g = some (v, g') ∧ EcoSt X (l ++ frS X.co i w e) g' ∧ Kept g g' := by
  refine raw_of (P := fun v g' => EcoSt X (l ++ frS X.co i w e) g' ∧ Kept g g') h96 ?_
  have hnx := S.nx
  have f7 := S.f7
  have grow := fun (n : Nat) (hn : g.nx ≤ n) => S.grow (g' := ⟨upd g.hp g.nx (some (.cells (evC e) false)), n⟩) hn fun i hi => by
    show upd _ _ _ _ = _
    rw [upd_ne _ _ (by omega)]
  by_cases hk : e.kd = 1
  · have hk1 : (e.kd == 1) = true := by simp [hk]
    simp (disch := omega) only [A_eco_pairs_5, wp, Nat.reduceAdd, Nat.reduceMul, Nat.reduceSub, gl, hk1, f7]
    obtain ⟨S1, K1⟩ := grow (g.nx + 1 + 3 + 4) (by omega)
    refine bindO_call _ (sp_behind h93 h92 S1 hl hco i w) ?_
    rintro v g3 ⟨S3, K3⟩
    simp (disch := omega) only [wp, Nat.reduceAdd, Nat.reduceMul, Nat.reduceSub, gl]
    have : frS X.co i w e = behL i w X.co := if_pos hk
    rw [this]
    exact ⟨_, rfl, S3, K1.trans K3⟩
  · have hk1 : (e.kd == 1) = false := by simp [hk]
    simp (disch := omega) only [A_eco_pairs_5, wp, Nat.reduceAdd, Nat.reduceMul, Nat.reduceSub, gl, hk1, f7]
    have : l ++ frS X.co i w e = l := by rw [frS, if_neg hk]; simp
    rw [this]
    exact ⟨_, rfl, (grow _ (by omega)).1, (grow _ (by omega)).2⟩
end Go.Ab
end
section
set_option linter.unusedVariables false
set_option linter.unusedSimpArgs false
namespace Go.Ab
variable {F : Funs}
def Few (X : Gr) : Prop := X.evs.length ≤ 60 ∧ X.co.length ≤ 6 ∧ ∀ c ∈ X.co, c.length ≤ 60
def wOf (X : Gr) (i : Nat) : Int := if i < X.rf.length then X.rf.getD i 0 else -1
def pairsE (stp : Int → Int → Ev → List (Int × Int)) (X : Gr) (k : Nat) : List (Int × Int) := (List.range k).flatMap fun (i : Nat) => stp (i : Int) (wOf X i) (X.evs.getD i ev0)
theorem pairsE_succ (stp X k) : pairsE stp X (k + 1) = pairsE stp X k ++ stp k (wOf X k) (X.evs.getD k ev0) := by simp [pairsE, List.range_succ]
theorem pairsE_len {stp X} (h : ∀ i w e, (stp i w e).length ≤ 1000) : ∀ k, (pairsE stp X k).length ≤ k * 1000
  | 0 => by simp [pairsE]
  | k + 1 => by
    rw [pairsE_succ, List.length_append, Nat.succ_mul]
    have h1 := pairsE_len (X := X) h k
    have h2 := h k (wOf X k) (X.evs.getD k ev0)
    omega
set_option maxRecDepth 100000 in
set_option maxHeartbeats 4000000 in
theorem sp_pairsE (h80 : F 80 = some A_eco_pairs) (h81 : F 81 = some A_graph_Of) (pr : Pk_rel F) {X : Gr} (hX : Few X) {s : ByteArray} {fid : Nat} {caps : List AV} {stp : Int → Int → Ev → List (Int × Int)}
    (hm : mlook [(.s ⟨#[114, 102]⟩, .fn 94 [] [.mp 4 0]), (.s ⟨#[99, 111]⟩, .fn 95 [] [.mp 7 0]), (.s ⟨#[102, 114]⟩, .fn 96 [] [.mp 7 0])] s = some (.fn fid [] caps))
    (hlen : ∀ i w e, (stp i w e).length ≤ 1000)
    (hstp : ∀ (l : List (Int × Int)) (g : G), EcoSt X l g → l.length < 1000000 → ∀ (i w : Int) (e : Ev), ∃ v g', callS F fid ([.i .i64 i, .i .i64 w, .agg (evC e)] ++ caps) g = some (v, g') ∧ EcoSt X (l ++ stp i w e) g' ∧ Kept g g') :
    pureS F 80 [.agg (grC X), .s s] = some (.ptr (relC (clamp X.evs.length) (newR (clamp X.evs.length) (pairsE stp X X.evs.length)))) := by
  refine pure_of h80 ?_
  have e1 : mlook [(AV.s ⟨#[114, 102]⟩, AV.fn 94 [] [.mp 4 0])] ⟨#[99, 111]⟩ = none := by rfl
  have e2 : mlook [(AV.s ⟨#[114, 102]⟩, AV.fn 94 [] [.mp 4 0]), (AV.s ⟨#[99, 111]⟩, AV.fn 95 [] [.mp 7 0])] ⟨#[102, 114]⟩ = none := by rfl
  have e0 : mlook [] (⟨#[114, 102]⟩ : ByteArray) = none := rfl
  have hev := hX.1
  simp (disch := omega) only [A_eco_pairs, wp, Nat.reduceAdd, Nat.reduceMul, Nat.reduceSub, gl, e0, e1, e2]
  refine W_loop (fun q e g => ∃ k, q = X.evs.length - k ∧ k ≤ X.evs.length ∧ e 1 = .s s ∧ e 2 = .mp 0 0 ∧ e 5 = .mp 2 0 ∧ e 8 = .mm 9 ∧ e 20 = .sl (evsC X.evs) X.evs.length .non ∧ e 21 = .i .i64 X.evs.length ∧ e 22 = .i .i64 k ∧ EcoSt X (pairsE stp X k) g) X.evs.length ?_ ?_
  · refine ⟨0, rfl, Nat.zero_le _, ?_⟩
    simp (disch := omega) only [wp, Nat.reduceAdd, Nat.reduceMul, Nat.reduceSub]
    refine ⟨rfl, ?_, ⟨.rig, ?_, .inl rfl⟩, ?_, ?_, ?_, ?_⟩
    · simp (disch := omega) only [upd_same, upd_ne]
    · simp (disch := omega) only [upd_same, upd_ne]; rfl
    · simp (disch := omega) only [upd_same, upd_ne]
    · simp (disch := omega) only [upd_same, upd_ne]
    · simp (disch := omega) only [upd_same, upd_ne]
    · first | omega | (dsimp only; omega)
  · rintro q e g ⟨k, rfl, hk, e1, e2, e5, e8, e20, e21, e22, S⟩
    have hnx := S.nx
    have h0 := S.gr
    have h9 := S.m9
    by_cases hk' : k < X.evs.length
    · have hk1 : (k : Int) < X.evs.length := by omega
      have hwk := succ_wrap (k := k) (by omega)
      have hp := ev_part hk'
      have hs := pairsE_succ stp X k
      have hl := pairsE_len (X := X) hlen k
      generalize hE : X.evs.getD k ev0 = ev at hp hs
      have grow : ∀ n, g.nx ≤ n → EcoSt X (pairsE stp X k) ⟨upd (upd g.hp (g.nx + 1 + 3) (some (.cells (List.replicate 5 (AV.i .i64 0) ++ [.b false]) false))) (g.nx + 1 + 3) (some (.cells (evC ev) false)), n⟩ := fun n hn =>
        (S.grow hn fun i hi => by
          show upd _ _ _ _ = _
          rw [upd_ne _ _ (by omega), upd_ne _ _ (by omega)]).1
      by_cases hr : k < X.rf.length
      · have hr1 : (k : Int) < X.rf.length := by omega
        have hip := ints_part hr
        have hw : wOf X k = X.rf.getD k 0 := if_pos hr
        rw [hw] at hs
        generalize X.rf.getD k 0 = w at hip hs
        simp (disch := omega) only [wp, Nat.reduceAdd, Nat.reduceMul, Nat.reduceSub, gl, e1, e2, e5, e8, e20, e21, e22, h0, h9, hk1, hp, hr1, hip, hm]
        refine bindO_call _ (hstp _ _ (grow _ (by omega)) (by omega) k w ev) ?_
        rintro v g3 ⟨S3, K3⟩
        simp (disch := omega) only [wp, Nat.reduceAdd, Nat.reduceMul, Nat.reduceSub, gl, e1, e2, e5, e8, e20, e21, e22, hwk]
        refine ⟨X.evs.length - (k + 1), by omega, k + 1, rfl, by omega, rfl, ?_⟩
        rw [hs]
        exact S3.on (by first | omega | (dsimp only; omega))
      · have hr1 : ¬ (k : Int) < X.rf.length := by omega
        have hw : wOf X k = -1 := if_neg hr
        rw [hw] at hs
        simp (disch := omega) only [wp, Nat.reduceAdd, Nat.reduceMul, Nat.reduceSub, gl, e1, e2, e5, e8, e20, e21, e22, h0, h9, hk1, hp, hr1, hm]
        refine bindO_call _ (hstp _ _ (grow _ (by omega)) (by omega) k (-1) ev) ?_
        rintro v g3 ⟨S3, K3⟩
        simp (disch := omega) only [wp, Nat.reduceAdd, Nat.reduceMul, Nat.reduceSub, gl, e1, e2, e5, e8, e20, e21, e22, hwk]
        refine ⟨X.evs.length - (k + 1), by omega, k + 1, rfl, by omega, rfl, ?_⟩
        rw [hs]
        exact S3.on (by first | omega | (dsimp only; omega))
    · obtain rfl : k = X.evs.length := by omega
      have hk1 : ¬ ((X.evs.length : Int) < X.evs.length) := by omega
      obtain ⟨t, hp, ht⟩ := S.put
      have hl := pairsE_len (X := X) hlen X.evs.length
      have hof := sp_of h81 pr X (pairsE stp X X.evs.length) .non (by omega)
      simp (disch := omega) only [wp, Nat.reduceAdd, Nat.reduceMul, Nat.reduceSub, gl, e1, e2, e5, e8, e20, e21, e22, h0, hk1, hp, hof]
end Go.Ab
end
section
set_option linter.unusedVariables false
set_option linter.unusedSimpArgs false
namespace Go.Ab
variable {F : Funs}
def nOf (X : Gr) : Nat := clamp X.evs.length
def relE (stp : Int → Int → Ev → List (Int × Int)) (X : Gr) : Rw := newR (nOf X) (pairsE stp X X.evs.length)
theorem few_beh {X : Gr} (hX : Few X) (i w : Int) : (behL i w X.co).length ≤ 1000 := by
  have h1 := behL_len i w X.co hX.2.2
  have h2 : X.co.length * 60 ≤ 6 * 60 := Nat.mul_le_mul hX.2.1 (Nat.le_refl _)
  omega
theorem few_co {X : Gr} (hX : Few X) : X.co.length ≤ 1000 ∧ ∀ c ∈ X.co, c.length ≤ 1000 := ⟨by have := hX.2.1; omega, fun c hc => by have := hX.2.2 c hc; omega⟩
set_option maxRecDepth 100000 in
theorem sp_Rf (pe : Pk_eco F) (h81 : F 81 = some A_graph_Of) (pr : Pk_rel F) {X : Gr} (hX : Few X) : pureS F 48 [.agg (grC X)] = some (.ptr (relC (nOf X) (relE rfS X))) := by
  refine pure_of pe.eco_Rf ?_
  have h := sp_pairsE pe.eco_pairs h81 pr hX (s := ⟨#[114, 102]⟩) (fid := 94) (caps := [.mp 4 0]) (stp := rfS) (by rfl) (fun i w e => by unfold rfS; split <;> simp) (fun l g S hl i w e => sp_94 pe.eco_pairs_3 pe.eco_pairs_1 S hl i w e)
  simp (disch := omega) only [A_eco_Rf, wp, Nat.reduceAdd, Nat.reduceMul, Nat.reduceSub, gl, h]
  rfl
set_option maxRecDepth 100000 in
theorem sp_Co (pe : Pk_eco F) (h81 : F 81 = some A_graph_Of) (pr : Pk_rel F) {X : Gr} (hX : Few X) : pureS F 49 [.agg (grC X)] = some (.ptr (relC (nOf X) (relE (coS X.co) X))) := by
  refine pure_of pe.eco_Co ?_
  have h := sp_pairsE pe.eco_pairs h81 pr hX (s := ⟨#[99, 111]⟩) (fid := 95) (caps := [.mp 7 0]) (stp := coS X.co) (by rfl) (fun i w e => by unfold coS; split; exact few_beh hX i i; simp) (fun l g S hl i w e => sp_95 pe.eco_pairs_4 pe.eco_pairs_2 pe.eco_pairs_1 S hl (few_co hX) i w e)
  simp (disch := omega) only [A_eco_Co, wp, Nat.reduceAdd, Nat.reduceMul, Nat.reduceSub, gl, h]
  rfl
set_option maxRecDepth 100000 in
theorem sp_Fr (pe : Pk_eco F) (h81 : F 81 = some A_graph_Of) (pr : Pk_rel F) {X : Gr} (hX : Few X) : pureS F 50 [.agg (grC X)] = some (.ptr (relC (nOf X) (relE (frS X.co) X))) := by
  refine pure_of pe.eco_Fr ?_
  have h := sp_pairsE pe.eco_pairs h81 pr hX (s := ⟨#[102, 114]⟩) (fid := 96) (caps := [.mp 7 0]) (stp := frS X.co) (by rfl) (fun i w e => by unfold frS; split; exact few_beh hX i w; simp) (fun l g S hl i w e => sp_96 pe.eco_pairs_5 pe.eco_pairs_2 pe.eco_pairs_1 S hl (few_co hX) i w e)
  simp (disch := omega) only [A_eco_Fr, wp, Nat.reduceAdd, Nat.reduceMul, Nat.reduceSub, gl, h]
  rfl
def ecoR (X : Gr) : Rw := plusR (nOf X) (orR (orR (relE rfS X) (relE (coS X.co) X)) (relE (frS X.co) X))
theorem nOf_le (X : Gr) : nOf X ≤ 40 := clamp_le _
set_option maxRecDepth 100000 in
theorem sp_Eco (pe : Pk_eco F) (h81 : F 81 = some A_graph_Of) (pr : Pk_rel F) {X : Gr} (hX : Few X) : pureS F 42 [.agg (grC X)] = some (.ptr (relC (nOf X) (ecoR X))) := by
  refine pure_of pe.eco_Eco ?_
  have hn := nOf_le X
  simp (disch := omega) only [A_eco_Eco, wp, Nat.reduceAdd, Nat.reduceMul, Nat.reduceSub, gl, sp_Rf pe h81 pr hX, sp_Co pe h81 pr hX, sp_Fr pe h81 pr hX, sp_or pr, Nat.max_self, sp_plus pr]
  rfl
def okP (so : Ev → Ev → Bool) (X : Gr) (p : Int × Int) : Bool := decide (p.1 < X.evs.length) && decide (p.2 < X.evs.length) && so (X.evs.getD p.1.toNat ev0) (X.evs.getD p.2.toNat ev0)
theorem filter_take {P : Int × Int → Bool} {l : List (Int × Int)} {k : Nat} (h : k < l.length) : (l.take (k + 1)).filter P = (l.take k).filter P ++ (if P (l.getD k (0, 0)) then [l.getD k (0, 0)] else []) := by
  rw [List.take_add_one, List.filter_append, List.getElem?_eq_getElem h, List.getD_eq_getElem?_getD, List.getElem?_eq_getElem h]
  simp only [Option.toList, Option.getD_some, List.filter_cons, List.filter_nil]
set_option maxRecDepth 100000 in
set_option maxHeartbeats 8000000 in
theorem sp_someE (pe : Pk_eco F) (h81 : F 81 = some A_graph_Of) (pr : Pk_rel F) {X : Gr} {n : Nat} (hn : n ≤ 40) (R : Rw) {fid : Nat} {so : Ev → Ev → Bool} (hso : ∀ x y, pureS F fid [.agg (evC x), .agg (evC y)] = some (.b (so x y))) :
    pureS F 57 [.agg (grC X), .ptr (relC n R), .fn fid [] []] = some (.ptr (relC (nOf X) (newR (nOf X) ((pairsR n R).filter (okP so X))))) := by
  refine pure_of pe.eco_some ?_
  have hlen := pairsR_len hn R
  simp (disch := omega) only [A_eco_some, wp, Nat.reduceAdd, Nat.reduceMul, Nat.reduceSub, gl, sp_pairs pr hn]
  generalize hL : pairsR n R = L at hlen
  refine W_loop (fun q e g => ∃ k t, q = L.length - k ∧ k ≤ L.length ∧ e 2 = .fn fid [] [] ∧ e 3 = .mp 0 0 ∧ e 11 = .sl (pairsC L) L.length .non ∧ e 12 = .i .i64 L.length ∧ e 13 = .i .i64 k ∧ e 7 = .sl (pairsC ((L.take k).filter (okP so X))) ((L.take k).filter (okP so X)).length t ∧ Live g 2 t ∧ g.hp 0 = some (.cells (grC X) false) ∧ 0 < g.nx) L.length ?_ ?_
  · refine ⟨0, .rig, rfl, Nat.zero_le _, ?_⟩
    simp (disch := omega) only [wp, Nat.reduceAdd, Nat.reduceMul, Nat.reduceSub]
    exact ⟨rfl, rfl, .inl rfl, by first | omega | (dsimp only; omega)⟩
  · rintro q e g ⟨k, t, rfl, hk, e2, e3, e11, e12, e13, e7, ht, h0, hnx⟩
    by_cases hk' : k < L.length
    · have hk1 : (k : Int) < L.length := by omega
      have hw := succ_wrap (k := k) (by omega)
      have hp := pairs_part hk'
      have hf := filter_take (P := okP so X) hk'
      have hfl : ((L.take k).filter (okP so X)).length ≤ 1600 := by
        have h1 := List.length_filter_le (okP so X) (L.take k)
        rw [List.length_take] at h1; omega
      have hmem : L.getD k (0, 0) ∈ pairsR n R := by
        rw [hL, List.getD_eq_getElem?_getD, List.getElem?_eq_getElem hk']
        exact List.getElem_mem hk'
      obtain ⟨m1, m2, m3, m4⟩ := pairsR_mem hmem
      generalize L.getD k (0, 0) = p at hp hf m1 m2 m3 m4
      generalize (L.take k).filter (okP so X) = B at e7 hf hfl
      obtain ⟨a, b⟩ := p
      simp only at m1 m2 m3 m4
      have n1 : 0 ≠ g.nx + 1 + 2 := by omega
      have hno : ∀ {x}, okP so X (a, b) = x → x = false → (L.take (k + 1)).filter (okP so X) = B := fun h1 h2 => by rw [hf, h1, h2]; simp
      by_cases iA : a < X.evs.length
      · by_cases iB : b < X.evs.length
        · have pA := ev_part (l := X.evs) (k := a.toNat) (by omega)
          have pB := ev_part (l := X.evs) (k := b.toNat) (by omega)
          cases hs : so (X.evs.getD a.toNat ev0) (X.evs.getD b.toNat ev0) with
          | true =>
            have hok : okP so X (a, b) = true := by simp only [okP, hs, decide_eq_true iA, decide_eq_true iB, Bool.and_true]
            rw [if_pos hok] at hf
            rcases ht with rfl | ⟨τ, rfl, hτ, hlt⟩
            · simp (disch := omega) only [wp, Nat.reduceAdd, Nat.reduceMul, Nat.reduceSub, gl, e2, e3, e11, e12, e13, e7, h0, hk1, hp, iA, iB, pA, pB, hso, hs, pairsC_len, hw]
              refine ⟨L.length - (k + 1), by omega, k + 1, ?_⟩
              rw [hf, pairsC_app, pairsC_one, List.length_append]
              exact ⟨_, rfl, by omega, rfl, rfl, .inr ⟨_, rfl, upd_same _ _ _, by first | omega | (dsimp only; omega)⟩, by first | omega | (dsimp only; omega)⟩
            · have n0 : τ ≠ 0 := fun h => by rw [h, h0] at hτ; cases hτ
              simp (disch := omega) only [wp, Nat.reduceAdd, Nat.reduceMul, Nat.reduceSub, gl, e2, e3, e11, e12, e13, e7, h0, hk1, hp, iA, iB, pA, pB, hso, hs, pairsC_len, hw, hτ]
              refine ⟨L.length - (k + 1), by omega, k + 1, ?_⟩
              rw [hf, pairsC_app, pairsC_one, List.length_append]
              exact ⟨_, rfl, by omega, rfl, rfl, .inr ⟨_, rfl, upd_same _ _ _, by first | omega | (dsimp only; omega)⟩, by first | omega | (dsimp only; omega)⟩
          | false =>
            have hB := hno (x := false) (by simp only [okP, hs, Bool.and_false]) rfl
            simp (disch := omega) only [wp, Nat.reduceAdd, Nat.reduceMul, Nat.reduceSub, gl, e2, e3, e11, e12, e13, e7, h0, hk1, hp, iA, iB, pA, pB, hso, hs, hw]
            refine ⟨L.length - (k + 1), by omega, k + 1, t, rfl, by omega, rfl, ?_⟩
            rw [hB]
            refine ⟨rfl, ?_, by first | omega | (dsimp only; omega)⟩
            rcases ht with rfl | ⟨τ, rfl, hτ, hlt⟩
            · exact .inl rfl
            · exact .inr ⟨τ, rfl, by simp (disch := omega) only [upd_ne]; exact hτ, by first | omega | (dsimp only; omega)⟩
        · have hB := hno (x := false) (by simp [okP, iB]) rfl
          simp (disch := omega) only [wp, Nat.reduceAdd, Nat.reduceMul, Nat.reduceSub, gl, e2, e3, e11, e12, e13, e7, h0, hk1, hp, iA, iB, hw]
          refine ⟨L.length - (k + 1), by omega, k + 1, t, rfl, by omega, rfl, ?_⟩
          rw [hB]
          refine ⟨rfl, ?_, by first | omega | (dsimp only; omega)⟩
          rcases ht with rfl | ⟨τ, rfl, hτ, hlt⟩
          · exact .inl rfl
          · exact .inr ⟨τ, rfl, by simp (disch := omega) only [upd_ne]; exact hτ, by first | omega | (dsimp only; omega)⟩
      · have hB := hno (x := false) (by simp [okP, iA]) rfl
        simp (disch := omega) only [wp, Nat.reduceAdd, Nat.reduceMul, Nat.reduceSub, gl, e2, e3, e11, e12, e13, e7, h0, hk1, hp, iA, hw]
        refine ⟨L.length - (k + 1), by omega, k + 1, t, rfl, by omega, rfl, ?_⟩
        rw [hB]
        refine ⟨rfl, ?_, by first | omega | (dsimp only; omega)⟩
        rcases ht with rfl | ⟨τ, rfl, hτ, hlt⟩
        · exact .inl rfl
        · exact .inr ⟨τ, rfl, by simp (disch := omega) only [upd_ne]; exact hτ, by first | omega | (dsimp only; omega)⟩
    · obtain rfl : k = L.length := by omega
      have hk1 : ¬ ((L.length : Int) < L.length) := by omega
      rw [List.take_length] at e7
      have hfl : (L.filter (okP so X)).length ≤ 1600 := by
        have h1 := List.length_filter_le (okP so X) L
        omega
      have hof := sp_of h81 pr X (L.filter (okP so X)) .non (by omega)
      simp (disch := omega) only [wp, Nat.reduceAdd, Nat.reduceMul, Nat.reduceSub, gl, e2, e3, e11, e12, e13, e7, h0, hk1, hof]
      rfl
end Go.Ab
end
section
set_option linter.unusedVariables false
set_option linter.unusedSimpArgs false
namespace Go.Ab
variable {F : Funs}
def inner (x y : Ev) : Bool := x.th == y.th
def outer (x y : Ev) : Bool := x.th != y.th
def locP (x y : Ev) : Bool := x.kd != 3 && y.kd != 3 && x.lc == y.lc
set_option maxRecDepth 100000 in
theorem sp_58 (h : F 58 = some A_eco_Inner_1) (x y : Ev) : pureS F 58 [.agg (evC x), .agg (evC y)] = some (.b (inner x y)) := by
  refine pure_of h ?_
  simp (disch := omega) only [A_eco_Inner_1, wp, Nat.reduceAdd, Nat.reduceMul, Nat.reduceSub, gl]
  rfl
set_option maxRecDepth 100000 in
theorem sp_59 (h : F 59 = some A_eco_Outer_1) (x y : Ev) : pureS F 59 [.agg (evC x), .agg (evC y)] = some (.b (outer x y)) := by
  refine pure_of h ?_
  simp (disch := omega) only [A_eco_Outer_1, wp, Nat.reduceAdd, Nat.reduceMul, Nat.reduceSub, gl]
  rfl
set_option maxRecDepth 100000 in
theorem sp_61 (h : F 61 = some A_eco_Loc_1) (x y : Ev) : pureS F 61 [.agg (evC x), .agg (evC y)] = some (.b (locP x y)) := by
  refine pure_of h ?_
  unfold locP
  cases h1 : (x.kd != 3) with
  | true =>
    cases h2 : (y.kd != 3) with
    | true => simp (disch := omega) only [A_eco_Loc_1, wp, Nat.reduceAdd, Nat.reduceMul, Nat.reduceSub, gl, h1, h2]
    | false => simp (disch := omega) only [A_eco_Loc_1, wp, Nat.reduceAdd, Nat.reduceMul, Nat.reduceSub, gl, h1, h2]
  | false => simp (disch := omega) only [A_eco_Loc_1, wp, Nat.reduceAdd, Nat.reduceMul, Nat.reduceSub, gl, h1]
def partR (so : Ev → Ev → Bool) (X : Gr) (n : Nat) (R : Rw) : Rw := newR (nOf X) ((pairsR n R).filter (okP so X))
set_option maxRecDepth 100000 in
theorem sp_Inner (pe : Pk_eco F) (h81 : F 81 = some A_graph_Of) (pr : Pk_rel F) {X : Gr} {n : Nat} (hn : n ≤ 40) (R : Rw) : pureS F 39 [.agg (grC X), .ptr (relC n R)] = some (.ptr (relC (nOf X) (partR inner X n R))) := by
  refine pure_of pe.eco_Inner ?_
  have h := sp_someE pe h81 pr (X := X) hn R (sp_58 pe.eco_Inner_1)
  simp (disch := omega) only [A_eco_Inner, wp, Nat.reduceAdd, Nat.reduceMul, Nat.reduceSub, gl, h]
  rfl
set_option maxRecDepth 100000 in
theorem sp_Outer (pe : Pk_eco F) (h81 : F 81 = some A_graph_Of) (pr : Pk_rel F) {X : Gr} {n : Nat} (hn : n ≤ 40) (R : Rw) : pureS F 40 [.agg (grC X), .ptr (relC n R)] = some (.ptr (relC (nOf X) (partR outer X n R))) := by
  refine pure_of pe.eco_Outer ?_
  have h := sp_someE pe h81 pr (X := X) hn R (sp_59 pe.eco_Outer_1)
  simp (disch := omega) only [A_eco_Outer, wp, Nat.reduceAdd, Nat.reduceMul, Nat.reduceSub, gl, h]
  rfl
end Go.Ab
end
section
set_option linter.unusedVariables false
set_option linter.unusedSimpArgs false
namespace Go.Ab
variable {F : Funs}
def poB (a b : Nat) (x y : Ev) : Bool := ((x.th == 0) && (y.th != 0)) || ((x.th == y.th) && ((x.th != 0) && decide (a < b)))
def poReg : ACode := match A_graph_Po.body with
  | .seq _ (.seq _ (.seq (.seq _ (.blk _ (.loop (.seq _ (.seq _ (.seq (.blk _ (.seq _ (.seq _ (.blk _ (.loop (.seq _ (.seq _ (.seq (.blk _ (.seq _ (.seq r _))) _)))))))) _)))))) _)) => r
  | _ => .skip
set_option maxRecDepth 100000 in
set_option maxHeartbeats 4000000 in
theorem po_reg {e : Env} {g : G} {a b i j : Nat} {x y : Ev} (h5 : e 5 = .mp i 0) (h7 : e 7 = .mp j 0) (h4 : e 4 = .i .i64 a) (h6 : e 6 = .i .i64 b) (hi : g.hp i = some (.cells (evC x) false)) (hj : g.hp j = some (.cells (evC y) false)) :
    W F poReg e g (midQ fun e' g' => e' 48 = .b (poB a b x y) ∧ (∀ t, t < 24 → e' t = e t) ∧ g' = ⟨g.hp, g.nx + 25⟩) := by
  have fin : ∀ {e' : Env}, (∀ t, t < 24 → e' t = e t) → True := fun _ => trivial
  unfold poB
  cases c1 : (x.th == 0) <;> cases c2 : (y.th != 0) <;> cases c3 : (x.th == y.th) <;> cases c4 : (x.th != 0) <;> cases c5 : decide ((a : Int) < b) <;>
    (have c5' : decide (a < b) = decide ((a : Int) < b) := by rw [decide_eq_decide]; omega) <;>
    rw [c5] at c5' <;>
    simp (disch := omega) only [poReg, A_graph_Po, wp, Nat.reduceAdd, Nat.reduceMul, Nat.reduceSub, gl, h5, h7, h4, h6, hi, hj, c1, c2, c3, c4, c5, c5'] <;>
    (intro t ht; simp (disch := omega) only [upd_ne])
def A_graph_Po' : AFun := { res := [.t 2], body := (.seq (.reg false [{ dst := some 1, op := .box (.t 0) },
  { dst := some 2, op := .mv (.c (.nilp)) }])
 (.seq (.reg false [{ dst := some 3, op := .mv (.c (.sl [] 0 .rig)) }])
 (.seq (.seq (.reg false [{ dst := some 8, op := .fa 1 (.t 1) },
  { dst := some 9, op := .ld none (.t 8) },
  { dst := some 10, op := .len (.t 9) },
  { dst := some 11, op := .mv (.c (.i .i64 0)) }])
 (.blk 0 (.loop (.seq (.reg false [{ dst := some 12, op := .bin .lss (.t 11) (.t 10) }])
 (.seq (.cond (.t 12) .skip
 (.ext 0))
 (.seq (.blk 1 (.seq (.reg false [{ dst := some 13, op := .mv (.t 11) },
  { dst := some 14, op := .ia 6 (.t 9) (.t 11) },
  { dst := some 15, op := .ld (some 6) (.t 14) },
  { dst := some 5, op := .new (List.replicate 5 (.i .i64 0) ++ [.b false]) },
  { dst := some 4, op := .mv (.t 13) },
  { dst := none, op := .st 6 (.t 5) (.t 15) }])
 (.seq (.reg false [{ dst := some 16, op := .fa 1 (.t 1) },
  { dst := some 17, op := .ld none (.t 16) },
  { dst := some 18, op := .len (.t 17) },
  { dst := some 19, op := .mv (.c (.i .i64 0)) }])
 (.blk 2 (.loop (.seq (.reg false [{ dst := some 20, op := .bin .lss (.t 19) (.t 18) }])
 (.seq (.cond (.t 20) .skip
 (.ext 2))
 (.seq (.blk 3 (.seq (.reg false [{ dst := some 21, op := .mv (.t 19) },
  { dst := some 22, op := .ia 6 (.t 17) (.t 19) },
  { dst := some 23, op := .ld (some 6) (.t 22) },
  { dst := some 7, op := .new (List.replicate 5 (.i .i64 0) ++ [.b false]) },
  { dst := some 6, op := .mv (.t 21) },
  { dst := none, op := .st 6 (.t 7) (.t 23) }])
 (.seq poReg
 (.cond (.t 48) (.reg false [{ dst := some 49, op := .mv (.t 3) },
  { dst := some 50, op := .mv (.t 4) },
  { dst := some 51, op := .mv (.t 6) },
  { dst := some 52, op := .build ([.i .i64 0, .i .i64 0]) [(0, 1, .t 50), (1, 1, .t 51)] },
  { dst := some 53, op := .bsl true 1 ([.i .i64 0, .i .i64 0]) [(0, 2, .t 52)] },
  { dst := some 54, op := .app 2 16 (.t 49) (.t 53) },
  { dst := some 3, op := .mv (.t 54) }])
 .skip))))
 (.reg false [{ dst := some 55, op := .bin .add (.t 19) (.c (.i .i64 1)) },
  { dst := some 19, op := .mv (.t 55) }])))))))))
 (.reg false [{ dst := some 56, op := .bin .add (.t 11) (.c (.i .i64 1)) },
  { dst := some 11, op := .mv (.t 56) }])))))))
 (.seq (.reg false [{ dst := some 57, op := .ld (some 8) (.t 1) },
  { dst := some 58, op := .mv (.t 3) },
  { dst := some 59, op := .call .pure (.c (.fn 81 [] [])) [.t 57, .t 58] },
  { dst := some 2, op := .mv (.t 59) }])
 .ret)))) }
theorem po_eq : A_graph_Po = A_graph_Po' := rfl
def poRow (X : Gr) (k j : Nat) : List (Int × Int) := ((List.range j).filter fun (b : Nat) => poB k b (X.evs.getD k ev0) (X.evs.getD b ev0)).map fun (b : Nat) => ((k : Int), (b : Int))
def poK (X : Gr) (k : Nat) : List (Int × Int) := (List.range k).flatMap fun a => poRow X a X.evs.length
def poL (X : Gr) (k j : Nat) : List (Int × Int) := poK X k ++ poRow X k j
theorem poK_succ (X k) : poK X (k + 1) = poL X k X.evs.length := by simp [poK, poL, List.range_succ]
theorem poL_0 (X k) : poL X k 0 = poK X k := by simp [poL, poRow]
theorem poL_succ (X k j) : poL X k (j + 1) = if poB k j (X.evs.getD k ev0) (X.evs.getD j ev0) then poL X k j ++ [((k : Int), (j : Int))] else poL X k j := by
  unfold poL poRow
  rw [List.range_succ, List.filter_append, List.filter_cons]
  split <;> simp
set_option maxRecDepth 100000 in
set_option maxHeartbeats 4000000 in
theorem sp_Po (h60 : F 60 = some A_graph_Po) (h81 : F 81 = some A_graph_Of) (pr : Pk_rel F) {X : Gr} (hX : X.evs.length ≤ 1000) : pureS F 60 [.agg (grC X)] = some (.ptr (relC (nOf X) (newR (nOf X) (poK X X.evs.length)))) := by
  rw [po_eq] at h60
  refine pure_of h60 ?_
  simp (disch := omega) only [A_graph_Po', wp, Nat.reduceAdd, Nat.reduceMul, Nat.reduceSub, gl]
  refine W_loop (fun q e g => ∃ k t, q = X.evs.length - k ∧ k ≤ X.evs.length ∧ e 1 = .mp 0 0 ∧ e 9 = .sl (evsC X.evs) X.evs.length .non ∧ e 10 = .i .i64 X.evs.length ∧ e 11 = .i .i64 k ∧ e 3 = .sl (pairsC (poK X k)) (poK X k).length t ∧ Live g 2 t ∧ (poK X k).length ≤ 1000 * k ∧ g.hp 0 = some (.cells (grC X) false) ∧ 0 < g.nx) X.evs.length ?_ ?_
  · refine ⟨0, .rig, rfl, Nat.zero_le _, ?_⟩
    simp (disch := omega) only [wp, Nat.reduceAdd, Nat.reduceMul, Nat.reduceSub]
    exact ⟨rfl, rfl, .inl rfl, Nat.zero_le _, by first | omega | (dsimp only; omega)⟩
  · rintro q e g ⟨k, t, rfl, hk, e1, e9, e10, e11, e3, ht, hl, h0, hnx⟩
    by_cases hk' : k < X.evs.length
    · have hk1 : (k : Int) < X.evs.length := by omega
      have hwk := succ_wrap (k := k) (by omega)
      have hpk := ev_part hk'
      have n1 : 0 ≠ g.nx + 1 + 3 := by omega
      simp (disch := omega) only [wp, Nat.reduceAdd, Nat.reduceMul, Nat.reduceSub, gl, e1, e9, e10, e11, e3, h0, hk1, hpk]
      refine W_loop (fun q e g2 => ∃ j t, q = X.evs.length - j ∧ j ≤ X.evs.length ∧ e 1 = .mp 0 0 ∧ e 9 = .sl (evsC X.evs) X.evs.length .non ∧ e 10 = .i .i64 X.evs.length ∧ e 11 = .i .i64 k ∧ e 4 = .i .i64 k ∧ e 5 = .mp (g.nx + 1 + 3) 0 ∧ e 17 = .sl (evsC X.evs) X.evs.length .non ∧ e 18 = .i .i64 X.evs.length ∧ e 19 = .i .i64 j ∧ e 3 = .sl (pairsC (poL X k j)) (poL X k j).length t ∧ Live g2 2 t ∧ (poL X k j).length ≤ 1000 * k + j ∧ g2.hp 0 = some (.cells (grC X) false) ∧ g2.hp (g.nx + 1 + 3) = some (.cells (evC (X.evs.getD k ev0)) false) ∧ g.nx + 1 + 3 < g2.nx) X.evs.length ?_ ?_
      · refine ⟨0, t, rfl, Nat.zero_le _, ?_⟩
        simp (disch := omega) only [wp, Nat.reduceAdd, Nat.reduceMul, Nat.reduceSub, e1, e9, e10, e11, e3, h0, poL_0]
        refine ⟨rfl, ?_, by first | omega | (dsimp only; omega), by first | omega | (dsimp only; omega)⟩
        rcases ht with rfl | ⟨τ, rfl, hτ, hlt⟩
        · exact .inl rfl
        · exact .inr ⟨τ, rfl, by simp (disch := omega) only [upd_ne]; exact hτ, by first | omega | (dsimp only; omega)⟩
      · rintro q e g2 ⟨j, t, rfl, hj, e1, e9, e10, e11, e4, e5, e17, e18, e19, e3, ht, hl, h0, hc, hn2⟩
        by_cases hj' : j < X.evs.length
        · have hj1 : (j : Int) < X.evs.length := by omega
          have hwj := succ_wrap (k := j) (by omega)
          have hpj := ev_part hj'
          have hLs := poL_succ X k j
          simp (disch := omega) only [wp, Nat.reduceAdd, Nat.reduceMul, Nat.reduceSub, gl, e1, e9, e10, e11, e4, e5, e17, e18, e19, e3, hj1, hpj]
          have m1 : g.nx + 1 + 3 ≠ g2.nx + 1 + 3 := by omega
          refine W_mono (po_reg (a := k) (b := j) (i := g.nx + 1 + 3) (j := g2.nx + 1 + 3) (x := X.evs.getD k ev0) (y := X.evs.getD j ev0) (by simp (disch := omega) only [upd_ne, e5]) (by simp (disch := omega) only [upd_ne, upd_same]) (by simp (disch := omega) only [upd_ne, e4]) (by simp (disch := omega) only [upd_ne, upd_same]) (by simp (disch := omega) only [upd_ne]; exact hc) (by simp (disch := omega) only [upd_same])) ?_
          intro o e' g' hm
          cases o with
          | ext n => exact hm.elim
          | ret => exact hm.elim
          | nrm =>
            obtain ⟨f48, hfr, rfl⟩ := hm
            have f1 := hfr 1 (by omega)
            have f3 := hfr 3 (by omega)
            have f4 := hfr 4 (by omega)
            have f5 := hfr 5 (by omega)
            have f6 := hfr 6 (by omega)
            have f9 := hfr 9 (by omega)
            have f10 := hfr 10 (by omega)
            have f11 := hfr 11 (by omega)
            have f17 := hfr 17 (by omega)
            have f18 := hfr 18 (by omega)
            have f19 := hfr 19 (by omega)
            simp (disch := omega) only [upd_ne, upd_same, e1, e3, e4, e5, e9, e10, e11, e17, e18, e19] at f1 f3 f4 f5 f6 f9 f10 f11 f17 f18 f19
            clear hfr
            cases hB : poB k j (X.evs.getD k ev0) (X.evs.getD j ev0) with
            | true =>
              rw [hB] at f48 hLs
              rw [if_pos rfl] at hLs
              rcases ht with rfl | ⟨τ, rfl, hτ, hlt⟩
              · simp (disch := omega) only [wp, Nat.reduceAdd, Nat.reduceMul, Nat.reduceSub, gl, f1, f3, f4, f5, f6, f9, f10, f11, f17, f18, f19, f48, pairsC_len, hwj]
                refine ⟨X.evs.length - (j + 1), by omega, j + 1, ?_⟩
                rw [hLs, pairsC_app, pairsC_one, List.length_append]
                exact ⟨_, rfl, by omega, rfl, rfl, .inr ⟨_, rfl, upd_same _ _ _, by first | omega | (dsimp only; omega)⟩, by simp; omega, h0, hc, by first | omega | (dsimp only; omega)⟩
              · have n0 : τ ≠ 0 := fun h => by rw [h, h0] at hτ; cases hτ
                have nc : τ ≠ g.nx + 1 + 3 := fun h => by rw [h, hc] at hτ; cases hτ
                simp (disch := omega) only [wp, Nat.reduceAdd, Nat.reduceMul, Nat.reduceSub, gl, f1, f3, f4, f5, f6, f9, f10, f11, f17, f18, f19, f48, pairsC_len, hwj, hτ]
                refine ⟨X.evs.length - (j + 1), by omega, j + 1, ?_⟩
                rw [hLs, pairsC_app, pairsC_one, List.length_append]
                exact ⟨_, rfl, by omega, rfl, rfl, .inr ⟨_, rfl, upd_same _ _ _, by first | omega | (dsimp only; omega)⟩, by simp; omega, h0, hc, by first | omega | (dsimp only; omega)⟩
            | false =>
              rw [hB] at f48 hLs
              rw [if_neg (by simp)] at hLs
              simp (disch := omega) only [wp, Nat.reduceAdd, Nat.reduceMul, Nat.reduceSub, gl, f1, f3, f4, f5, f6, f9, f10, f11, f17, f18, f19, f48, hwj]
              refine ⟨X.evs.length - (j + 1), by omega, j + 1, t, rfl, by omega, rfl, ?_⟩
              rw [hLs]
              refine ⟨rfl, ?_, by omega, by first | exact h0 | (simp (disch := omega) only [upd_ne]; exact h0), by first | exact hc | (simp (disch := omega) only [upd_ne]; exact hc), by first | omega | (dsimp only; omega)⟩
              rcases ht with rfl | ⟨τ, rfl, hτ, hlt⟩
              · exact .inl rfl
              · exact .inr ⟨τ, rfl, by simp (disch := omega) only [upd_ne]; exact hτ, by first | omega | (dsimp only; omega)⟩
        · obtain rfl : j = X.evs.length := by omega
          have hj1 : ¬ ((X.evs.length : Int) < X.evs.length) := by omega
          rw [← poK_succ] at e3 hl
          simp (disch := omega) only [wp, Nat.reduceAdd, Nat.reduceMul, Nat.reduceSub, gl, e1, e9, e10, e11, e4, e5, e17, e18, e19, e3, hj1, hwk]
          refine ⟨X.evs.length - (k + 1), by omega, k + 1, t, rfl, by omega, rfl, rfl, ?_, by omega, h0, by first | omega | (dsimp only; omega)⟩
          rcases ht with rfl | ⟨τ, rfl, hτ, hlt⟩
          · exact .inl rfl
          · exact .inr ⟨τ, rfl, hτ, by first | omega | (dsimp only; omega)⟩
    · obtain rfl : k = X.evs.length := by omega
      have hk1 : ¬ ((X.evs.length : Int) < X.evs.length) := by omega
      have hof := sp_of h81 pr X (poK X X.evs.length) .non (by omega)
      simp (disch := omega) only [wp, Nat.reduceAdd, Nat.reduceMul, Nat.reduceSub, gl, e1, e9, e10, e11, e3, h0, hk1, hof]
      rfl
def poR (X : Gr) : Rw := newR (nOf X) (poK X X.evs.length)
set_option maxRecDepth 100000 in
theorem sp_Loc (pe : Pk_eco F) (h60 : F 60 = some A_graph_Po) (h81 : F 81 = some A_graph_Of) (pr : Pk_rel F) {X : Gr} (hX : X.evs.length ≤ 1000) : pureS F 41 [.agg (grC X)] = some (.ptr (relC (nOf X) (partR locP X (nOf X) (poR X)))) := by
  refine pure_of pe.eco_Loc ?_
  have h1 := sp_Po h60 h81 pr hX
  have h := sp_someE pe h81 pr (X := X) (nOf_le X) (poR X) (sp_61 pe.eco_Loc_1)
  unfold poR at h
  simp (disch := omega) only [A_eco_Loc, wp, Nat.reduceAdd, Nat.reduceMul, Nat.reduceSub, gl, h1, h]
  rfl
end Go.Ab
end
section
set_option linter.unusedVariables false
set_option linter.unusedSimpArgs false
namespace Go.Ab
variable {F : Funs}
theorem ev_th_at : ∀ {l : List Ev} {k : Nat} (h : k < l.length), part ((evsC l).drop (k * 6)) 0 none = some (.i .i64 (l.getD k ev0).th)
  | p :: l, 0, _ => by simp [evsC, part, evC]
  | p :: l, k + 1, h => by
    have := ev_th_at (l := l) (k := k) (by simpa using h)
    simp only [List.getD_cons_succ]
    rw [← this]
    simp [evsC, Nat.succ_mul, evC]
structure FewG (X : Gr) : Prop where
  evs : X.evs.length ≤ 50
  rf : X.rf.length ≤ 60
  co : X.co.length ≤ 6
  cos : ∀ c ∈ X.co, c.length ≤ 50
  rmw : X.rmw.length ≤ 50
  data : X.data.length ≤ 300
  ctrl : X.ctrl.length ≤ 300
  ctrli : X.ctrli.length ≤ 300
end Go.Ab
end
section
set_option linter.unusedVariables false
set_option linter.unusedSimpArgs false
namespace Go.Ab
variable {F : Funs}
def EqN (n : Nat) (A : Mx) (R : Rw) : Prop := Wf n R ∧ ∀ a b, a < n → b < n → A a b = hb R a b
theorem EqN.same {n A R} (h : EqN n A R) : Same n A R := same_of h.2
theorem EqN.new {n : Nat} (hn : n ≤ 40) (l : List (Int × Int)) : EqN n (newM n l) (newR n l) := ⟨wf_new hn _, fun a b _ _ => eqv_new hn l a b⟩
section
variable {n : Nat} {A B : Mx} {R S : Rw}
theorem EqN.or (h : EqN n A R) (k : EqN n B S) : EqN n (opM (fun x y => x || y) A B n) (orR R S) :=
  ⟨wf_or h.1 k.1, fun a b ha hb' => by rw [opM_get _ _ _ _ _ _ ha hb', h.2 a b ha hb', k.2 a b ha hb', hb_or]⟩
theorem EqN.and (h : EqN n A R) (k : EqN n B S) : EqN n (opM (fun x y => x && y) A B n) (andR R S) :=
  ⟨wf_and h.1, fun a b ha hb' => by rw [opM_get _ _ _ _ _ _ ha hb', h.2 a b ha hb', k.2 a b ha hb', hb_and]⟩
theorem EqN.then (h : EqN n A R) (k : EqN n B S) : EqN n (thM A B n n) (thenR n R S) :=
  ⟨wf_then h.1 k.1, fun a b ha hb' => by
    rw [thM_get _ _ _ _ _ _ hb', Bool.eq_iff_iff, hb_then h.1, decide_eq_true ha, Bool.true_and, List.any_eq_true]
    constructor
    · rintro ⟨c, hc, hh⟩
      rw [h.2 a c ha (List.mem_range.1 hc), k.2 c b (List.mem_range.1 hc) hb', Bool.and_eq_true] at hh
      exact ⟨c, hh.1, hh.2⟩
    · rintro ⟨c, h1, h2⟩
      have hc := (h.1 a c h1).2
      exact ⟨c, List.mem_range.2 hc, by rw [h.2 a c ha hc, k.2 c b hc hb', h1, h2]; rfl⟩⟩
end
end Go.Ab
end
section
namespace Go.Ab
def A_xref09_Rf : AFun := { res := [.t 2], body := (.seq (.reg false [{ dst := some 1, op := .box (.t 0) },
  { dst := some 2, op := .mv (.c (.nilp)) }])
 (.seq (.reg false [{ dst := some 5, op := .fa 1 (.t 1) },
  { dst := some 6, op := .ld none (.t 5) },
  { dst := some 7, op := .len (.t 6) },
  { dst := some 8, op := .call .thaw (.c (.fn 27 [] [])) [.t 7, .c (.sl [] 0 .rig)] },
  { dst := some 3, op := .mv (.t 8) }])
 (.seq (.seq (.reg false [{ dst := some 4, op := .mv (.c (.i .i64 0)) }])
 (.blk 0 (.loop (.seq (.seq (.reg false [{ dst := some 9, op := .mv (.t 4) },
  { dst := some 10, op := .fa 2 (.t 1) },
  { dst := some 11, op := .ld none (.t 10) },
  { dst := some 12, op := .len (.t 11) },
  { dst := some 13, op := .bin .lss (.t 9) (.t 12) }])
 (.cond (.t 13) .skip
 (.ext 0)))
 (.seq (.blk 1 (.seq (.reg false [{ dst := some 16, op := .fa 2 (.t 1) },
  { dst := some 17, op := .ld none (.t 16) },
  { dst := some 18, op := .mv (.t 4) },
  { dst := some 19, op := .ia 1 (.t 17) (.t 18) },
  { dst := some 20, op := .ld none (.t 19) },
  { dst := some 21, op := .bin .geq (.t 20) (.c (.i .i64 0)) }])
 (.cond (.t 21) (.reg true [{ dst := some 22, op := .mv (.t 3) },
  { dst := some 23, op := .fa 2 (.t 1) },
  { dst := some 24, op := .ld none (.t 23), pre := [] },
  { dst := some 25, op := .mv (.t 4) },
  { dst := some 26, op := .ia 1 (.t 24) (.t 25) },
  { dst := some 27, op := .ld none (.t 26), pre := [] },
  { dst := some 28, op := .mv (.t 4) },
  { dst := some 29, op := .nilck (.t 22) },
  { dst := some 30, op := .fa 1 (.t 29) },
  { dst := some 31, op := .iaa 40 40 (.t 30) (.t 27) },
  { dst := some 32, op := .iaa 40 1 (.t 31) (.t 28) },
  { dst := none, op := .st 1 (.t 32) (.c (.b true)), pre := [] }])
 .skip)))
 (.reg false [{ dst := some 14, op := .mv (.t 4) },
  { dst := some 15, op := .bin .add (.t 14) (.c (.i .i64 1)) },
  { dst := some 4, op := .mv (.t 15) }]))))))
 (.seq (.reg false [{ dst := some 33, op := .mv (.t 3) },
  { dst := some 2, op := .mv (.t 33) }])
 .ret)))) }
def A_xref09_Co : AFun := { res := [.t 2], body := (.seq (.reg false [{ dst := some 1, op := .box (.t 0) },
  { dst := some 2, op := .mv (.c (.nilp)) }])
 (.seq (.reg false [{ dst := some 7, op := .fa 1 (.t 1) },
  { dst := some 8, op := .ld none (.t 7) },
  { dst := some 9, op := .len (.t 8) },
  { dst := some 10, op := .call .thaw (.c (.fn 27 [] [])) [.t 9, .c (.sl [] 0 .rig)] },
  { dst := some 3, op := .mv (.t 10) }])
 (.seq (.seq (.reg false [{ dst := some 4, op := .mv (.c (.i .i64 0)) }])
 (.blk 0 (.loop (.seq (.seq (.reg false [{ dst := some 11, op := .mv (.t 4) },
  { dst := some 12, op := .fa 3 (.t 1) },
  { dst := some 13, op := .ld none (.t 12) },
  { dst := some 14, op := .len (.t 13) },
  { dst := some 15, op := .bin .lss (.t 11) (.t 14) }])
 (.cond (.t 15) .skip
 (.ext 0)))
 (.seq (.blk 1 (.seq (.reg false [{ dst := some 5, op := .mv (.c (.i .i64 0)) }])
 (.blk 2 (.loop (.seq (.seq (.reg false [{ dst := some 18, op := .mv (.t 5) },
  { dst := some 19, op := .fa 3 (.t 1) },
  { dst := some 20, op := .ld none (.t 19) },
  { dst := some 21, op := .mv (.t 4) },
  { dst := some 22, op := .ia 1 (.t 20) (.t 21) },
  { dst := some 23, op := .ld none (.t 22) },
  { dst := some 24, op := .len (.t 23) },
  { dst := some 25, op := .bin .lss (.t 18) (.t 24) }])
 (.cond (.t 25) .skip
 (.ext 2)))
 (.seq (.blk 3 (.seq (.reg false [{ dst := some 28, op := .mv (.t 5) },
  { dst := some 29, op := .bin .add (.t 28) (.c (.i .i64 1)) },
  { dst := some 6, op := .mv (.t 29) }])
 (.blk 4 (.loop (.seq (.seq (.reg false [{ dst := some 30, op := .mv (.t 6) },
  { dst := some 31, op := .fa 3 (.t 1) },
  { dst := some 32, op := .ld none (.t 31) },
  { dst := some 33, op := .mv (.t 4) },
  { dst := some 34, op := .ia 1 (.t 32) (.t 33) },
  { dst := some 35, op := .ld none (.t 34) },
  { dst := some 36, op := .len (.t 35) },
  { dst := some 37, op := .bin .lss (.t 30) (.t 36) }])
 (.cond (.t 37) .skip
 (.ext 4)))
 (.seq (.blk 5 (.reg true [{ dst := some 40, op := .mv (.t 3) },
  { dst := some 41, op := .fa 3 (.t 1) },
  { dst := some 42, op := .ld none (.t 41), pre := [] },
  { dst := some 43, op := .mv (.t 4) },
  { dst := some 44, op := .ia 1 (.t 42) (.t 43) },
  { dst := some 45, op := .ld none (.t 44), pre := [] },
  { dst := some 46, op := .mv (.t 5) },
  { dst := some 47, op := .ia 1 (.t 45) (.t 46) },
  { dst := some 48, op := .ld none (.t 47), pre := [] },
  { dst := some 49, op := .fa 3 (.t 1) },
  { dst := some 50, op := .ld none (.t 49), pre := [] },
  { dst := some 51, op := .mv (.t 4) },
  { dst := some 52, op := .ia 1 (.t 50) (.t 51) },
  { dst := some 53, op := .ld none (.t 52), pre := [] },
  { dst := some 54, op := .mv (.t 6) },
  { dst := some 55, op := .ia 1 (.t 53) (.t 54) },
  { dst := some 56, op := .ld none (.t 55), pre := [] },
  { dst := some 57, op := .nilck (.t 40) },
  { dst := some 58, op := .fa 1 (.t 57) },
  { dst := some 59, op := .iaa 40 40 (.t 58) (.t 48) },
  { dst := some 60, op := .iaa 40 1 (.t 59) (.t 56) },
  { dst := none, op := .st 1 (.t 60) (.c (.b true)), pre := [] }]))
 (.reg false [{ dst := some 38, op := .mv (.t 6) },
  { dst := some 39, op := .bin .add (.t 38) (.c (.i .i64 1)) },
  { dst := some 6, op := .mv (.t 39) }])))))))
 (.reg false [{ dst := some 26, op := .mv (.t 5) },
  { dst := some 27, op := .bin .add (.t 26) (.c (.i .i64 1)) },
  { dst := some 5, op := .mv (.t 27) }])))))))
 (.reg false [{ dst := some 16, op := .mv (.t 4) },
  { dst := some 17, op := .bin .add (.t 16) (.c (.i .i64 1)) },
  { dst := some 4, op := .mv (.t 17) }]))))))
 (.seq (.reg false [{ dst := some 61, op := .mv (.t 3) },
  { dst := some 2, op := .mv (.t 61) }])
 .ret)))) }
def A_xref09_Fr : AFun := { res := [.t 2], body := (.seq (.reg false [{ dst := some 1, op := .box (.t 0) },
  { dst := some 2, op := .mv (.c (.nilp)) }])
 (.seq (.reg true [{ dst := some 3, op := .ld (some 8) (.t 1), pre := [] },
  { dst := some 4, op := .call .pure (.c (.fn 69 [] [])) [.t 3], pre := [] },
  { dst := some 5, op := .call .pure (.c (.fn 33 [] [])) [.t 4], pre := [] },
  { dst := some 6, op := .ld (some 8) (.t 1), pre := [] },
  { dst := some 7, op := .call .pure (.c (.fn 70 [] [])) [.t 6], pre := [] },
  { dst := some 8, op := .call .pure (.c (.fn 32 [] [])) [.t 5, .t 7], pre := [] },
  { dst := some 2, op := .mv (.t 8) }])
 .ret)) }
def A_xref09_Loc : AFun := { res := [.t 2], body := (.seq (.reg false [{ dst := some 1, op := .box (.t 0) },
  { dst := some 2, op := .mv (.c (.nilp)) }])
 (.seq (.reg false [{ dst := some 8, op := .ld (some 8) (.t 1) },
  { dst := some 9, op := .call .thaw (.c (.fn 84 [] [])) [.t 8] },
  { dst := some 3, op := .mv (.t 9) }])
 (.seq (.seq (.reg false [{ dst := some 4, op := .mv (.c (.i .i64 0)) }])
 (.blk 0 (.loop (.seq (.seq (.reg false [{ dst := some 10, op := .mv (.t 4) },
  { dst := some 11, op := .mv (.t 3) },
  { dst := some 12, op := .nilck (.t 11) },
  { dst := some 13, op := .fa 0 (.t 12) },
  { dst := some 14, op := .ld none (.t 13) },
  { dst := some 15, op := .bin .lss (.t 10) (.t 14) }])
 (.cond (.t 15) .skip
 (.ext 0)))
 (.seq (.blk 1 (.seq (.reg false [{ dst := some 5, op := .mv (.c (.i .i64 0)) }])
 (.blk 2 (.loop (.seq (.seq (.reg false [{ dst := some 18, op := .mv (.t 5) },
  { dst := some 19, op := .mv (.t 3) },
  { dst := some 20, op := .nilck (.t 19) },
  { dst := some 21, op := .fa 0 (.t 20) },
  { dst := some 22, op := .ld none (.t 21) },
  { dst := some 23, op := .bin .lss (.t 18) (.t 22) }])
 (.cond (.t 23) .skip
 (.ext 2)))
 (.seq (.blk 3 (.seq (.reg true [{ dst := some 26, op := .fa 1 (.t 1) },
  { dst := some 27, op := .ld none (.t 26), pre := [] },
  { dst := some 28, op := .mv (.t 4) },
  { dst := some 29, op := .ia 6 (.t 27) (.t 28) },
  { dst := some 30, op := .ld (some 6) (.t 29), pre := [] },
  { dst := some 31, op := .fa 1 (.t 1) },
  { dst := some 32, op := .ld none (.t 31), pre := [] },
  { dst := some 33, op := .mv (.t 5) },
  { dst := some 34, op := .ia 6 (.t 32) (.t 33) },
  { dst := some 35, op := .ld (some 6) (.t 34), pre := [] },
  { dst := some 6, op := .new (List.replicate 5 (.i .i64 0) ++ [.b false]) },
  { dst := some 7, op := .new (List.replicate 5 (.i .i64 0) ++ [.b false]) },
  { dst := none, op := .stL 6 (.t 6) (.t 30), pre := [10] },
  { dst := none, op := .stL 6 (.t 7) (.t 35), pre := [11] }])
 (.reg true [{ dst := some 36, op := .mv (.t 3) },
  { dst := some 37, op := .mv (.t 4) },
  { dst := some 38, op := .mv (.t 5) },
  { dst := some 39, op := .mv (.t 3) },
  { dst := some 40, op := .mv (.t 4) },
  { dst := some 41, op := .mv (.t 5) },
  { dst := some 42, op := .nilck (.t 39) },
  { dst := some 43, op := .fa 1 (.t 42) },
  { dst := some 44, op := .iaa 40 40 (.t 43) (.t 40) },
  { dst := some 45, op := .iaa 40 1 (.t 44) (.t 41) },
  { dst := some 46, op := .ld none (.t 45), pre := [] },
  { dst := some 47, op := .mv (.t 46) },
  { dst := some 48, op := .fa 1 (.t 6), grd := some (47, true) },
  { dst := some 49, op := .ld none (.t 48), grd := some (47, true), pre := [] },
  { dst := some 50, op := .bin .neq (.t 49) (.c (.i .i64 3)), grd := some (47, true) },
  { dst := some 51, op := .pick (.t 47) (.t 50) (.c (.b false)) },
  { dst := some 52, op := .mv (.t 51) },
  { dst := some 53, op := .fa 1 (.t 7), grd := some (52, true) },
  { dst := some 54, op := .ld none (.t 53), grd := some (52, true), pre := [] },
  { dst := some 55, op := .bin .neq (.t 54) (.c (.i .i64 3)), grd := some (52, true) },
  { dst := some 56, op := .pick (.t 52) (.t 55) (.c (.b false)) },
  { dst := some 57, op := .mv (.t 56) },
  { dst := some 58, op := .fa 3 (.t 6), grd := some (57, true) },
  { dst := some 59, op := .ld none (.t 58), grd := some (57, true), pre := [] },
  { dst := some 60, op := .fa 3 (.t 7), grd := some (57, true) },
  { dst := some 61, op := .ld none (.t 60), grd := some (57, true), pre := [] },
  { dst := some 62, op := .bin .eql (.t 59) (.t 61), grd := some (57, true) },
  { dst := some 63, op := .pick (.t 57) (.t 62) (.c (.b false)) },
  { dst := some 64, op := .nilck (.t 36) },
  { dst := some 65, op := .fa 1 (.t 64) },
  { dst := some 66, op := .iaa 40 40 (.t 65) (.t 37) },
  { dst := some 67, op := .iaa 40 1 (.t 66) (.t 38) },
  { dst := none, op := .st 1 (.t 67) (.t 63), pre := [] }])))
 (.reg false [{ dst := some 24, op := .mv (.t 5) },
  { dst := some 25, op := .bin .add (.t 24) (.c (.i .i64 1)) },
  { dst := some 5, op := .mv (.t 25) }])))))))
 (.reg false [{ dst := some 16, op := .mv (.t 4) },
  { dst := some 17, op := .bin .add (.t 16) (.c (.i .i64 1)) },
  { dst := some 4, op := .mv (.t 17) }]))))))
 (.seq (.reg false [{ dst := some 68, op := .mv (.t 3) },
  { dst := some 2, op := .mv (.t 68) }])
 .ret)))) }
def A_xref09_Inner : AFun := { res := [.t 4], body := (.seq (.reg false [{ dst := some 2, op := .box (.t 0) },
  { dst := some 4, op := .mv (.c (.nilp)) }])
 (.seq (.reg false [{ dst := some 5, op := .ld (some 8) (.t 2) },
  { dst := some 6, op := .mv (.t 1) },
  { dst := some 7, op := .call .pure (.c (.fn 85 [] [])) [.t 5, .t 6, .c (.b true)] },
  { dst := some 4, op := .mv (.t 7) }])
 .ret)) }
def A_xref09_Outer : AFun := { res := [.t 4], body := (.seq (.reg false [{ dst := some 2, op := .box (.t 0) },
  { dst := some 4, op := .mv (.c (.nilp)) }])
 (.seq (.reg false [{ dst := some 5, op := .ld (some 8) (.t 2) },
  { dst := some 6, op := .mv (.t 1) },
  { dst := some 7, op := .call .pure (.c (.fn 85 [] [])) [.t 5, .t 6, .c (.b false)] },
  { dst := some 4, op := .mv (.t 7) }])
 .ret)) }
def A_xref09_part : AFun := { res := [.t 6], body := (.seq (.reg false [{ dst := some 3, op := .box (.t 0) },
  { dst := some 6, op := .mv (.c (.nilp)) }])
 (.seq (.reg false [{ dst := some 10, op := .mv (.t 1) },
  { dst := some 11, op := .nilck (.t 10) },
  { dst := some 12, op := .fa 0 (.t 11) },
  { dst := some 13, op := .ld none (.t 12) },
  { dst := some 14, op := .call .thaw (.c (.fn 27 [] [])) [.t 13, .c (.sl [] 0 .rig)] },
  { dst := some 7, op := .mv (.t 14) }])
 (.seq (.seq (.reg false [{ dst := some 8, op := .mv (.c (.i .i64 0)) }])
 (.blk 0 (.loop (.seq (.seq (.reg false [{ dst := some 15, op := .mv (.t 8) },
  { dst := some 16, op := .mv (.t 1) },
  { dst := some 17, op := .nilck (.t 16) },
  { dst := some 18, op := .fa 0 (.t 17) },
  { dst := some 19, op := .ld none (.t 18) },
  { dst := some 20, op := .bin .lss (.t 15) (.t 19) },
  { dst := some 21, op := .mv (.t 20) },
  { dst := some 22, op := .mv (.t 8), grd := some (21, true) },
  { dst := some 23, op := .fa 1 (.t 3), grd := some (21, true) },
  { dst := some 24, op := .ld none (.t 23), grd := some (21, true) },
  { dst := some 25, op := .len (.t 24), grd := some (21, true) },
  { dst := some 26, op := .bin .lss (.t 22) (.t 25), grd := some (21, true) },
  { dst := some 27, op := .pick (.t 21) (.t 26) (.c (.b false)) }])
 (.cond (.t 27) .skip
 (.ext 0)))
 (.seq (.blk 1 (.seq (.reg false [{ dst := some 9, op := .mv (.c (.i .i64 0)) }])
 (.blk 2 (.loop (.seq (.seq (.reg false [{ dst := some 30, op := .mv (.t 9) },
  { dst := some 31, op := .mv (.t 1) },
  { dst := some 32, op := .nilck (.t 31) },
  { dst := some 33, op := .fa 0 (.t 32) },
  { dst := some 34, op := .ld none (.t 33) },
  { dst := some 35, op := .bin .lss (.t 30) (.t 34) },
  { dst := some 36, op := .mv (.t 35) },
  { dst := some 37, op := .mv (.t 9), grd := some (36, true) },
  { dst := some 38, op := .fa 1 (.t 3), grd := some (36, true) },
  { dst := some 39, op := .ld none (.t 38), grd := some (36, true) },
  { dst := some 40, op := .len (.t 39), grd := some (36, true) },
  { dst := some 41, op := .bin .lss (.t 37) (.t 40), grd := some (36, true) },
  { dst := some 42, op := .pick (.t 36) (.t 41) (.c (.b false)) }])
 (.cond (.t 42) .skip
 (.ext 2)))
 (.seq (.blk 3 (.reg true [{ dst := some 45, op := .mv (.t 7) },
  { dst := some 46, op := .mv (.t 8) },
  { dst := some 47, op := .mv (.t 9) },
  { dst := some 48, op := .mv (.t 1) },
  { dst := some 49, op := .mv (.t 8) },
  { dst := some 50, op := .mv (.t 9) },
  { dst := some 51, op := .nilck (.t 48) },
  { dst := some 52, op := .fa 1 (.t 51) },
  { dst := some 53, op := .iaa 40 40 (.t 52) (.t 49) },
  { dst := some 54, op := .iaa 40 1 (.t 53) (.t 50) },
  { dst := some 55, op := .ld none (.t 54), pre := [] },
  { dst := some 56, op := .mv (.t 55) },
  { dst := some 57, op := .fa 1 (.t 3), grd := some (56, true) },
  { dst := some 58, op := .ld none (.t 57), grd := some (56, true), pre := [] },
  { dst := some 59, op := .mv (.t 8), grd := some (56, true) },
  { dst := some 60, op := .ia 6 (.t 58) (.t 59), grd := some (56, true) },
  { dst := some 61, op := .fa 0 (.t 60), grd := some (56, true) },
  { dst := some 62, op := .ld none (.t 61), grd := some (56, true), pre := [] },
  { dst := some 63, op := .fa 1 (.t 3), grd := some (56, true) },
  { dst := some 64, op := .ld none (.t 63), grd := some (56, true), pre := [] },
  { dst := some 65, op := .mv (.t 9), grd := some (56, true) },
  { dst := some 66, op := .ia 6 (.t 64) (.t 65), grd := some (56, true) },
  { dst := some 67, op := .fa 0 (.t 66), grd := some (56, true) },
  { dst := some 68, op := .ld none (.t 67), grd := some (56, true), pre := [] },
  { dst := some 69, op := .bin .eql (.t 62) (.t 68), grd := some (56, true) },
  { dst := some 70, op := .mv (.t 2), grd := some (56, true) },
  { dst := some 71, op := .eqb false (.t 69) (.t 70), grd := some (56, true) },
  { dst := some 72, op := .pick (.t 56) (.t 71) (.c (.b false)) },
  { dst := some 73, op := .nilck (.t 45) },
  { dst := some 74, op := .fa 1 (.t 73) },
  { dst := some 75, op := .iaa 40 40 (.t 74) (.t 46) },
  { dst := some 76, op := .iaa 40 1 (.t 75) (.t 47) },
  { dst := none, op := .st 1 (.t 76) (.t 72), pre := [] }]))
 (.reg false [{ dst := some 43, op := .mv (.t 9) },
  { dst := some 44, op := .bin .add (.t 43) (.c (.i .i64 1)) },
  { dst := some 9, op := .mv (.t 44) }])))))))
 (.reg false [{ dst := some 28, op := .mv (.t 8) },
  { dst := some 29, op := .bin .add (.t 28) (.c (.i .i64 1)) },
  { dst := some 8, op := .mv (.t 29) }]))))))
 (.seq (.reg false [{ dst := some 77, op := .mv (.t 7) },
  { dst := some 6, op := .mv (.t 77) }])
 .ret)))) }
structure Pk_xref09 (F : Funs) : Prop where
  xref09_Rf : F 69 = some A_xref09_Rf
  xref09_Co : F 70 = some A_xref09_Co
  xref09_Fr : F 71 = some A_xref09_Fr
  xref09_Loc : F 73 = some A_xref09_Loc
  xref09_Inner : F 74 = some A_xref09_Inner
  xref09_Outer : F 75 = some A_xref09_Outer
  xref09_part : F 85 = some A_xref09_part
end Go.Ab
end
section
set_option linter.unusedVariables false
set_option linter.unusedSimpArgs false
namespace Go.Ab
variable {F : Funs}
def anyM (L : List (Int × Int)) : Mx := fun a b => L.any fun q => decide (q = ((a : Int), (b : Int)))
theorem anyM_add (L : List (Int × Int)) {a b : Int} (h0 : 0 ≤ a) (h1 : 0 ≤ b) : upd2 (anyM L) a.toNat b.toNat true = anyM (L ++ [(a, b)]) := by
  funext i j
  unfold upd2 anyM
  rw [List.any_append]
  by_cases h : i = a.toNat ∧ j = b.toNat
  · rw [if_pos h]
    have : decide ((a, b) = ((i : Int), (j : Int))) = true := by rw [decide_eq_true_eq, Prod.mk.injEq]; omega
    simp only [List.any_cons, List.any_nil, this, Bool.true_or, Bool.or_true]
  · rw [if_neg h]
    have : decide ((a, b) = ((i : Int), (j : Int))) = false := by rw [decide_eq_false_iff_not, Prod.mk.injEq]; omega
    simp only [List.any_cons, List.any_nil, this, Bool.or_false]
theorem anyM_mem {L : List (Int × Int)} {a b : Nat} : anyM L a b = true ↔ ((a : Int), (b : Int)) ∈ L := by
  unfold anyM
  rw [List.any_eq_true]
  constructor
  · rintro ⟨q, hq, h⟩; rw [decide_eq_true_eq] at h; rw [← h]; exact hq
  · intro h; exact ⟨_, h, by simp⟩
def rfL (X : Gr) (k : Nat) : List (Int × Int) := (List.range k).flatMap fun (i : Nat) => if 0 ≤ X.rf.getD i 0 then [(X.rf.getD i 0, (i : Int))] else []
theorem rfL_succ (X k) : rfL X (k + 1) = rfL X k ++ (if 0 ≤ X.rf.getD k 0 then [(X.rf.getD k 0, (k : Int))] else []) := by simp [rfL, List.range_succ]
set_option maxRecDepth 100000 in
set_option maxHeartbeats 4000000 in
theorem sp_mRf (h69 : F 69 = some A_xref09_Rf) (h27 : F 27 = some A_xref01_New) {X : Gr} (hn : X.evs.length ≤ 40) (hr : X.rf.length ≤ 40) (hw : ∀ i, i < X.rf.length → X.rf.getD i 0 < 40) : pureS F 69 [.agg (grC X)] = some (.ptr (matC X.evs.length (anyM (rfL X X.rf.length)))) := by
  refine pure_of_thaw h69 (matC_flat _ _) ?_
  simp (disch := omega) only [A_xref09_Rf, wp, Nat.reduceAdd, Nat.reduceMul, Nat.reduceSub, gl, ml, thaw27 h27]
  refine W_loop (fun q e g => ∃ k : Nat, q = X.rf.length - k ∧ k ≤ X.rf.length ∧ e 1 = .mp 0 0 ∧ e 3 = .mp 5 0 ∧ e 4 = .i .i64 k ∧ g.hp 0 = some (.cells (grC X) false) ∧ g.hp 5 = some (.cells (matC X.evs.length (anyM (rfL X k))) false) ∧ 5 < g.nx) X.rf.length ?_ ?_
  · refine ⟨0, rfl, Nat.zero_le _, ?_⟩
    simp (disch := omega) only [wp, Nat.reduceAdd, Nat.reduceMul, Nat.reduceSub]
    exact ⟨rfl, rfl, by first | omega | (dsimp only; omega)⟩
  · rintro q e g ⟨k, rfl, hk, e1, e3, e4, hg, hm, hnx⟩
    by_cases hk' : k < X.rf.length
    · have hk1 : (k : Int) < X.rf.length := by omega
      have hk40 : (k : Int) < 40 := by omega
      have hwk := succ_wrap (k := k) (by omega)
      have hp := ints_part hk'
      have hs := rfL_succ X k
      have hwb := hw k hk'
      generalize X.rf.getD k 0 = w at hp hs hwb
      generalize rfL X k = L at hm hs
      by_cases c1 : 0 ≤ w
      case neg =>
        rw [if_neg c1, List.append_nil] at hs
        simp (disch := omega) only [wp, Nat.reduceAdd, Nat.reduceMul, Nat.reduceSub, gl, ml, e1, e3, e4, hg, hm, hk1, hp, c1, hwk]
        exact ⟨X.rf.length - (k + 1), by omega, k + 1, rfl, by omega, rfl, by rw [hs], by first | omega | (dsimp only; omega)⟩
      rw [if_pos c1] at hs
      have hadd := anyM_add L c1 (b := (k : Int)) (by omega)
      rw [Int.toNat_natCast] at hadd
      have hset := matC_set (n := X.evs.length) (M := anyM L) (a := w.toNat) (b := k) (x := true) (by omega)
      rw [hadd, ← hs] at hset
      simp (disch := omega) only [wp, Nat.reduceAdd, Nat.reduceMul, Nat.reduceSub, gl, ml, e1, e3, e4, hg, hm, hk1, hp, c1, hwk, hset]
      exact ⟨X.rf.length - (k + 1), by omega, k + 1, rfl, by omega, rfl, rfl, by first | omega | (dsimp only; omega)⟩
    · obtain rfl : k = X.rf.length := by omega
      have hk1 : ¬ ((X.rf.length : Int) < X.rf.length) := by omega
      simp (disch := omega) only [wp, Nat.reduceAdd, Nat.reduceMul, Nat.reduceSub, gl, ml, e1, e3, e4, hg, hm, hk1]
      exact ⟨_, rfl, hm⟩
def coI (c : List Int) (i k : Nat) : List (Int × Int) := (List.range k).flatMap fun m => if i < m then [(c.getD i 0, c.getD m 0)] else []
theorem coI_succ {c : List Int} {i k : Nat} (h : i < k) : coI c i (k + 1) = coI c i k ++ [(c.getD i 0, c.getD k 0)] := by simp [coI, List.range_succ, h]
theorem coI_0 (c : List Int) (i : Nat) : coI c i (i + 1) = [] := by
  unfold coI
  rw [List.flatMap_eq_nil_iff]
  intro m hm
  rw [if_neg (by have := List.mem_range.1 hm; omega)]
def coJ (c : List Int) (i : Nat) : List (Int × Int) := (List.range i).flatMap fun j => coI c j c.length
theorem coJ_succ (c i) : coJ c (i + 1) = coJ c i ++ coI c i c.length := by simp [coJ, List.range_succ]
def coX (X : Gr) (l : Nat) : List (Int × Int) := (List.range l).flatMap fun j => coJ (X.co.getD j []) (X.co.getD j []).length
theorem coX_succ (X l) : coX X (l + 1) = coX X l ++ coJ (X.co.getD l []) (X.co.getD l []).length := by simp [coX, List.range_succ]
set_option maxRecDepth 100000 in
set_option maxHeartbeats 4000000 in
theorem sp_mCo (h70 : F 70 = some A_xref09_Co) (h27 : F 27 = some A_xref01_New) {X : Gr} (hn : X.evs.length ≤ 40) (hl : X.co.length ≤ 1000) (hc : ∀ j, j < X.co.length → (X.co.getD j []).length ≤ 1000 ∧ ∀ i, i < (X.co.getD j []).length → 0 ≤ (X.co.getD j []).getD i 0 ∧ (X.co.getD j []).getD i 0 < 40) : pureS F 70 [.agg (grC X)] = some (.ptr (matC X.evs.length (anyM (coX X X.co.length)))) := by
  refine pure_of_thaw h70 (matC_flat _ _) ?_
  simp (disch := omega) only [A_xref09_Co, wp, Nat.reduceAdd, Nat.reduceMul, Nat.reduceSub, gl, ml, thaw27 h27]
  refine W_loop (fun q e g => ∃ j : Nat, q = X.co.length - j ∧ j ≤ X.co.length ∧ e 1 = .mp 0 0 ∧ e 3 = .mp 5 0 ∧ e 4 = .i .i64 j ∧ g.hp 0 = some (.cells (grC X) false) ∧ g.hp 5 = some (.cells (matC X.evs.length (anyM (coX X j))) false) ∧ 5 < g.nx) X.co.length ?_ ?_
  · refine ⟨0, rfl, Nat.zero_le _, ?_⟩
    simp (disch := omega) only [wp, Nat.reduceAdd, Nat.reduceMul, Nat.reduceSub]
    exact ⟨rfl, rfl, by first | omega | (dsimp only; omega)⟩
  · rintro q e g ⟨j, rfl, hj, e1, e3, e4, hg, hm, hnx⟩
    by_cases hj' : j < X.co.length
    · have hj1 : (j : Int) < X.co.length := by omega
      have hwj := succ_wrap (k := j) (by omega)
      have hp := co_part hj'
      have hs := coX_succ X j
      obtain ⟨hcl, hcr⟩ := hc j hj'
      generalize X.co.getD j [] = c at hp hs hcl hcr
      generalize coX X j = L at hm hs
      simp (disch := omega) only [wp, Nat.reduceAdd, Nat.reduceMul, Nat.reduceSub, gl, ml, e1, e3, e4, hg, hm, hj1]
      refine W_loop (fun q e g => ∃ i : Nat, q = c.length - i ∧ i ≤ c.length ∧ e 1 = .mp 0 0 ∧ e 3 = .mp 5 0 ∧ e 4 = .i .i64 j ∧ e 5 = .i .i64 i ∧ g.hp 0 = some (.cells (grC X) false) ∧ g.hp 5 = some (.cells (matC X.evs.length (anyM (L ++ coJ c i))) false) ∧ 5 < g.nx) c.length ?_ ?_
      · refine ⟨0, rfl, Nat.zero_le _, ?_⟩
        simp (disch := omega) only [wp, Nat.reduceAdd, Nat.reduceMul, Nat.reduceSub, e1, e3, e4]
        exact ⟨rfl, hg, by rw [hm]; simp [coJ], by first | omega | (dsimp only; omega)⟩
      · rintro q e g ⟨i, rfl, hi, e1, e3, e4, e5, hg, hm, hnx⟩
        by_cases hi' : i < c.length
        · have hi1 : (i : Int) < c.length := by omega
          have hwi := succ_wrap (k := i) (by omega)
          have hip := ints_part hi'
          have hsJ := coJ_succ c i
          have ⟨ha0, ha1⟩ := hcr i hi'
          generalize hLJ : L ++ coJ c i = LJ at hm
          have hsJ' : L ++ coJ c (i + 1) = LJ ++ coI c i c.length := by rw [hsJ, ← List.append_assoc, hLJ]
          simp (disch := omega) only [wp, Nat.reduceAdd, Nat.reduceMul, Nat.reduceSub, gl, ml, e1, e3, e4, e5, hg, hm, hj1, hp, hi1, hwi]
          refine W_loop (fun q e g => ∃ k : Nat, q = c.length - k ∧ i < k ∧ k ≤ c.length ∧ e 1 = .mp 0 0 ∧ e 3 = .mp 5 0 ∧ e 4 = .i .i64 j ∧ e 5 = .i .i64 i ∧ e 6 = .i .i64 k ∧ g.hp 0 = some (.cells (grC X) false) ∧ g.hp 5 = some (.cells (matC X.evs.length (anyM (LJ ++ coI c i k))) false) ∧ 5 < g.nx) (c.length - (i + 1)) ?_ ?_
          · refine ⟨i + 1, rfl, by omega, by omega, ?_⟩
            simp (disch := omega) only [wp, Nat.reduceAdd, Nat.reduceMul, Nat.reduceSub, e1, e3, e4, e5, coI_0, List.append_nil]
            exact ⟨hg, hm, by first | omega | (dsimp only; omega)⟩
          · rintro q e g ⟨k, rfl, hik, hk, e1, e3, e4, e5, e6, hg, hm, hnx⟩
            by_cases hk' : k < c.length
            · have hk1 : (k : Int) < c.length := by omega
              have hwk := succ_wrap (k := k) (by omega)
              have hkp := ints_part hk'
              have hsI := coI_succ (c := c) hik
              have ⟨hb0, hb1⟩ := hcr k hk'
              generalize hLI : LJ ++ coI c i k = LI at hm
              have hsI' : LJ ++ coI c i (k + 1) = LI ++ [(c.getD i 0, c.getD k 0)] := by rw [hsI, ← List.append_assoc, hLI]
              generalize c.getD i 0 = va at hip ha0 ha1 hsI'
              generalize c.getD k 0 = vb at hkp hb0 hb1 hsI'
              have hadd := anyM_add LI ha0 hb0
              have hset := matC_set (n := X.evs.length) (M := anyM LI) (a := va.toNat) (b := vb.toNat) (x := true) (by omega)
              rw [hadd, ← hsI'] at hset
              simp (disch := omega) only [wp, Nat.reduceAdd, Nat.reduceMul, Nat.reduceSub, gl, ml, e1, e3, e4, e5, e6, hg, hm, hj1, hp, hi1, hk1, hip, hkp, hwk, hset]
              exact ⟨c.length - (k + 1), by omega, k + 1, rfl, by omega, by omega, rfl, rfl, by first | omega | (dsimp only; omega)⟩
            · obtain rfl : k = c.length := by omega
              have hk1 : ¬ ((c.length : Int) < c.length) := by omega
              simp (disch := omega) only [wp, Nat.reduceAdd, Nat.reduceMul, Nat.reduceSub, gl, ml, e1, e3, e4, e5, e6, hg, hm, hj1, hp, hk1, hwi]
              exact ⟨c.length - (i + 1), by omega, i + 1, rfl, by omega, rfl, by rw [hsJ'], by first | omega | (dsimp only; omega)⟩
        · obtain rfl : i = c.length := by omega
          have hi1 : ¬ ((c.length : Int) < c.length) := by omega
          simp (disch := omega) only [wp, Nat.reduceAdd, Nat.reduceMul, Nat.reduceSub, gl, ml, e1, e3, e4, e5, hg, hm, hj1, hp, hi1, hwj]
          exact ⟨X.co.length - (j + 1), by omega, j + 1, rfl, by omega, rfl, by rw [hs], by first | omega | (dsimp only; omega)⟩
    · obtain rfl : j = X.co.length := by omega
      have hj1 : ¬ ((X.co.length : Int) < X.co.length) := by omega
      simp (disch := omega) only [wp, Nat.reduceAdd, Nat.reduceMul, Nat.reduceSub, gl, ml, e1, e3, e4, hg, hm, hj1]
      exact ⟨_, rfl, hm⟩
end Go.Ab
end
section
namespace Go.Ab
def A_xref06_Check : AFun := { res := [.t 2], body := (.seq (.reg false [{ dst := some 1, op := .box (.t 0) },
  { dst := some 2, op := .mv (.c (.b false)) }])
 (.seq (.reg false [{ dst := some 6, op := .fa 1 (.t 1) },
  { dst := some 7, op := .ld none (.t 6) },
  { dst := some 8, op := .len (.t 7) },
  { dst := some 3, op := .mv (.t 8) }])
 (.seq (.seq (.reg false [{ dst := some 9, op := .fa 0 (.t 1) },
  { dst := some 10, op := .ld none (.t 9) },
  { dst := some 11, op := .bin .lss (.t 10) (.c (.i .i64 1)) },
  { dst := some 12, op := .mv (.t 11) },
  { dst := some 13, op := .fa 0 (.t 1), grd := some (12, false) },
  { dst := some 14, op := .ld none (.t 13), grd := some (12, false) },
  { dst := some 15, op := .bin .gtr (.t 14) (.c (.i .i64 4)), grd := some (12, false) },
  { dst := some 16, op := .pick (.t 12) (.c (.b true)) (.t 15) },
  { dst := some 17, op := .mv (.t 16) },
  { dst := some 18, op := .mv (.t 3), grd := some (17, false) },
  { dst := some 19, op := .fa 0 (.t 1), grd := some (17, false) },
  { dst := some 20, op := .ld none (.t 19), grd := some (17, false) },
  { dst := some 21, op := .bin .lss (.t 18) (.t 20), grd := some (17, false) },
  { dst := some 22, op := .pick (.t 17) (.c (.b true)) (.t 21) },
  { dst := some 23, op := .mv (.t 22) },
  { dst := some 24, op := .mv (.t 3), grd := some (23, false) },
  { dst := some 25, op := .bin .gtr (.t 24) (.c (.i .i64 40)), grd := some (23, false) },
  { dst := some 26, op := .pick (.t 23) (.c (.b true)) (.t 25) },
  { dst := some 27, op := .mv (.t 26) },
  { dst := some 28, op := .fa 2 (.t 1), grd := some (27, false) },
  { dst := some 29, op := .ld none (.t 28), grd := some (27, false) },
  { dst := some 30, op := .len (.t 29), grd := some (27, false) },
  { dst := some 31, op := .mv (.t 3), grd := some (27, false) },
  { dst := some 32, op := .bin .neq (.t 30) (.t 31), grd := some (27, false) },
  { dst := some 33, op := .pick (.t 27) (.c (.b true)) (.t 32) },
  { dst := some 34, op := .mv (.t 33) },
  { dst := some 35, op := .fa 3 (.t 1), grd := some (34, false) },
  { dst := some 36, op := .ld none (.t 35), grd := some (34, false) },
  { dst := some 37, op := .len (.t 36), grd := some (34, false) },
  { dst := some 38, op := .fa 0 (.t 1), grd := some (34, false) },
  { dst := some 39, op := .ld none (.t 38), grd := some (34, false) },
  { dst := some 40, op := .bin .neq (.t 37) (.t 39), grd := some (34, false) },
  { dst := some 41, op := .pick (.t 34) (.c (.b true)) (.t 40) }])
 (.cond (.t 41) (.seq (.reg false [{ dst := some 2, op := .mv (.c (.b false)) }])
 .ret)
 .skip))
 (.seq (.seq (.reg false [{ dst := some 4, op := .mv (.c (.i .i64 0)) }])
 (.blk 0 (.loop (.seq (.seq (.reg false [{ dst := some 42, op := .mv (.t 4) },
  { dst := some 43, op := .mv (.t 3) },
  { dst := some 44, op := .bin .lss (.t 42) (.t 43) }])
 (.cond (.t 44) .skip
 (.ext 0)))
 (.seq (.blk 1 (.seq (.reg false [{ dst := some 47, op := .ld (some 8) (.t 1) },
  { dst := some 48, op := .mv (.t 4) },
  { dst := some 49, op := .call .pure (.c (.fn 63 [] [])) [.t 47, .t 48] },
  { dst := some 50, op := .un .not (.t 49) },
  { dst := some 51, op := .mv (.t 50) },
  { dst := some 52, op := .ld (some 8) (.t 1), grd := some (51, false) },
  { dst := some 53, op := .mv (.t 4), grd := some (51, false) },
  { dst := some 54, op := .call .pure (.c (.fn 64 [] [])) [.t 52, .t 53], grd := some (51, false) },
  { dst := some 55, op := .un .not (.t 54), grd := some (51, false) },
  { dst := some 56, op := .pick (.t 51) (.c (.b true)) (.t 55) }])
 (.cond (.t 56) (.seq (.reg false [{ dst := some 2, op := .mv (.c (.b false)) }])
 .ret)
 .skip)))
 (.reg false [{ dst := some 45, op := .mv (.t 4) },
  { dst := some 46, op := .bin .add (.t 45) (.c (.i .i64 1)) },
  { dst := some 4, op := .mv (.t 46) }]))))))
 (.seq (.seq (.reg false [{ dst := some 5, op := .mv (.c (.i .i64 0)) }])
 (.blk 2 (.loop (.seq (.seq (.reg false [{ dst := some 57, op := .mv (.t 5) },
  { dst := some 58, op := .fa 0 (.t 1) },
  { dst := some 59, op := .ld none (.t 58) },
  { dst := some 60, op := .bin .lss (.t 57) (.t 59) }])
 (.cond (.t 60) .skip
 (.ext 2)))
 (.seq (.blk 3 (.seq (.reg false [{ dst := some 63, op := .ld (some 8) (.t 1) },
  { dst := some 64, op := .mv (.t 5) },
  { dst := some 65, op := .call .pure (.c (.fn 65 [] [])) [.t 63, .t 64] },
  { dst := some 66, op := .un .not (.t 65) }])
 (.cond (.t 66) (.seq (.reg false [{ dst := some 2, op := .mv (.c (.b false)) }])
 .ret)
 .skip)))
 (.reg false [{ dst := some 61, op := .mv (.t 5) },
  { dst := some 62, op := .bin .add (.t 61) (.c (.i .i64 1)) },
  { dst := some 5, op := .mv (.t 62) }]))))))
 (.seq (.reg false [{ dst := some 67, op := .ld (some 8) (.t 1) },
  { dst := some 68, op := .call .pure (.c (.fn 66 [] [])) [.t 67] },
  { dst := some 69, op := .mv (.t 68) },
  { dst := some 70, op := .ld (some 8) (.t 1), grd := some (69, true) },
  { dst := some 71, op := .fa 5 (.t 1), grd := some (69, true) },
  { dst := some 72, op := .ld none (.t 71), grd := some (69, true) },
  { dst := some 73, op := .call .pure (.c (.fn 67 [] [])) [.t 70, .t 72], grd := some (69, true) },
  { dst := some 74, op := .pick (.t 69) (.t 73) (.c (.b false)) },
  { dst := some 75, op := .mv (.t 74) },
  { dst := some 76, op := .ld (some 8) (.t 1), grd := some (75, true) },
  { dst := some 77, op := .fa 6 (.t 1), grd := some (75, true) },
  { dst := some 78, op := .ld none (.t 77), grd := some (75, true) },
  { dst := some 79, op := .call .pure (.c (.fn 67 [] [])) [.t 76, .t 78], grd := some (75, true) },
  { dst := some 80, op := .pick (.t 75) (.t 79) (.c (.b false)) },
  { dst := some 81, op := .mv (.t 80) },
  { dst := some 82, op := .ld (some 8) (.t 1), grd := some (81, true) },
  { dst := some 83, op := .fa 7 (.t 1), grd := some (81, true) },
  { dst := some 84, op := .ld none (.t 83), grd := some (81, true) },
  { dst := some 85, op := .call .pure (.c (.fn 67 [] [])) [.t 82, .t 84], grd := some (81, true) },
  { dst := some 86, op := .pick (.t 81) (.t 85) (.c (.b false)) },
  { dst := some 2, op := .mv (.t 86) }])
 .ret)))))) }
def A_xref06_event : AFun := { res := [.t 4], body := (.seq (.reg false [{ dst := some 2, op := .box (.t 0) },
  { dst := some 4, op := .mv (.c (.b false)) }])
 (.seq (.reg false [{ dst := some 7, op := .fa 1 (.t 2) },
  { dst := some 8, op := .ld none (.t 7) },
  { dst := some 9, op := .mv (.t 1) },
  { dst := some 10, op := .ia 6 (.t 8) (.t 9) },
  { dst := some 11, op := .ld (some 6) (.t 10) },
  { dst := some 5, op := .new (List.replicate 5 (.i .i64 0) ++ [.b false]) },
  { dst := none, op := .st 6 (.t 5) (.t 11) }])
 (.seq (.seq (.reg false [{ dst := some 12, op := .mv (.t 1) },
  { dst := some 13, op := .fa 0 (.t 2) },
  { dst := some 14, op := .ld none (.t 13) },
  { dst := some 15, op := .bin .lss (.t 12) (.t 14) }])
 (.cond (.t 15) (.seq (.reg false [{ dst := some 16, op := .fa 0 (.t 5) },
  { dst := some 17, op := .ld none (.t 16) },
  { dst := some 18, op := .bin .eql (.t 17) (.c (.i .i64 0)) },
  { dst := some 19, op := .mv (.t 18) },
  { dst := some 20, op := .fa 1 (.t 5), grd := some (19, true) },
  { dst := some 21, op := .ld none (.t 20), grd := some (19, true) },
  { dst := some 22, op := .bin .eql (.t 21) (.c (.i .i64 2)), grd := some (19, true) },
  { dst := some 23, op := .pick (.t 19) (.t 22) (.c (.b false)) },
  { dst := some 24, op := .mv (.t 23) },
  { dst := some 25, op := .fa 2 (.t 5), grd := some (24, true) },
  { dst := some 26, op := .ld none (.t 25), grd := some (24, true) },
  { dst := some 27, op := .bin .eql (.t 26) (.c (.i .i64 0)), grd := some (24, true) },
  { dst := some 28, op := .pick (.t 24) (.t 27) (.c (.b false)) },
  { dst := some 29, op := .mv (.t 28) },
  { dst := some 30, op := .fa 3 (.t 5), grd := some (29, true) },
  { dst := some 31, op := .ld none (.t 30), grd := some (29, true) },
  { dst := some 32, op := .mv (.t 1), grd := some (29, true) },
  { dst := some 33, op := .bin .eql (.t 31) (.t 32), grd := some (29, true) },
  { dst := some 34, op := .pick (.t 29) (.t 33) (.c (.b false)) },
  { dst := some 35, op := .mv (.t 34) },
  { dst := some 36, op := .fa 4 (.t 5), grd := some (35, true) },
  { dst := some 37, op := .ld none (.t 36), grd := some (35, true) },
  { dst := some 38, op := .bin .eql (.t 37) (.c (.i .i64 0)), grd := some (35, true) },
  { dst := some 39, op := .pick (.t 35) (.t 38) (.c (.b false)) },
  { dst := some 40, op := .mv (.t 39) },
  { dst := some 41, op := .fa 5 (.t 5), grd := some (40, true) },
  { dst := some 42, op := .ld none (.t 41), grd := some (40, true) },
  { dst := some 43, op := .un .not (.t 42), grd := some (40, true) },
  { dst := some 44, op := .pick (.t 40) (.t 43) (.c (.b false)) },
  { dst := some 4, op := .mv (.t 44) }])
 .ret)
 .skip))
 (.seq (.seq (.reg true [{ dst := some 45, op := .fa 0 (.t 5) },
  { dst := some 46, op := .ld none (.t 45), pre := [] },
  { dst := some 47, op := .bin .lss (.t 46) (.c (.i .i64 1)) },
  { dst := some 48, op := .mv (.t 47) },
  { dst := some 49, op := .fa 0 (.t 5), grd := some (48, false) },
  { dst := some 50, op := .ld none (.t 49), grd := some (48, false), pre := [] },
  { dst := some 51, op := .bin .gtr (.t 50) (.c (.i .i64 4)), grd := some (48, false) },
  { dst := some 52, op := .pick (.t 48) (.c (.b true)) (.t 51) },
  { dst := some 53, op := .mv (.t 52) },
  { dst := some 54, op := .mv (.t 1), grd := some (53, false) },
  { dst := some 55, op := .bin .gtr (.t 54) (.c (.i .i64 0)), grd := some (53, false) },
  { dst := some 56, op := .mv (.t 55), grd := some (53, false) },
  { dst := some 57, op := .fa 0 (.t 5), grd := some (56, true) },
  { dst := some 58, op := .ld none (.t 57), grd := some (56, true), pre := [] },
  { dst := some 59, op := .fa 1 (.t 2), grd := some (56, true) },
  { dst := some 60, op := .ld none (.t 59), grd := some (56, true), pre := [] },
  { dst := some 61, op := .mv (.t 1), grd := some (56, true) },
  { dst := some 62, op := .bin .sub (.t 61) (.c (.i .i64 1)), grd := some (56, true) },
  { dst := some 63, op := .ia 6 (.t 60) (.t 62), grd := some (56, true) },
  { dst := some 64, op := .fa 0 (.t 63), grd := some (56, true) },
  { dst := some 65, op := .ld none (.t 64), grd := some (56, true), pre := [] },
  { dst := some 66, op := .bin .lss (.t 58) (.t 65), grd := some (56, true) },
  { dst := some 67, op := .pick (.t 56) (.t 66) (.c (.b false)), grd := some (53, false) },
  { dst := some 68, op := .pick (.t 53) (.c (.b true)) (.t 67) }])
 (.cond (.t 68) (.seq (.reg false [{ dst := some 4, op := .mv (.c (.b false)) }])
 .ret)
 .skip))
 (.seq (.reg false [{ dst := some 69, op := .fa 3 (.t 5) },
  { dst := some 70, op := .ld none (.t 69) },
  { dst := some 71, op := .bin .geq (.t 70) (.c (.i .i64 0)) },
  { dst := some 72, op := .mv (.t 71) },
  { dst := some 73, op := .fa 3 (.t 5), grd := some (72, true) },
  { dst := some 74, op := .ld none (.t 73), grd := some (72, true) },
  { dst := some 75, op := .fa 0 (.t 2), grd := some (72, true) },
  { dst := some 76, op := .ld none (.t 75), grd := some (72, true) },
  { dst := some 77, op := .bin .lss (.t 74) (.t 76), grd := some (72, true) },
  { dst := some 78, op := .pick (.t 72) (.t 77) (.c (.b false)) },
  { dst := some 6, op := .mv (.t 78) }])
 (.seq (.seq (.reg false [{ dst := some 79, op := .fa 1 (.t 5) },
  { dst := some 80, op := .ld none (.t 79) }])
 (.blk 0 (.seq (.reg false [{ dst := some 82, op := .bin .eql (.t 80) (.c (.i .i64 1)) },
  { dst := some 81, op := .mv (.t 82) }])
 (.cond (.t 81) (.seq (.reg false [{ dst := some 83, op := .mv (.t 6) },
  { dst := some 84, op := .mv (.t 83) },
  { dst := some 85, op := .fa 2 (.t 5), grd := some (84, true) },
  { dst := some 86, op := .ld none (.t 85), grd := some (84, true) },
  { dst := some 87, op := .bin .eql (.t 86) (.c (.i .i64 0)), grd := some (84, true) },
  { dst := some 88, op := .mv (.t 87), grd := some (84, true) },
  { dst := some 89, op := .fa 2 (.t 5), grd := some (88, false) },
  { dst := some 90, op := .ld none (.t 89), grd := some (88, false) },
  { dst := some 91, op := .bin .eql (.t 90) (.c (.i .i64 1)), grd := some (88, false) },
  { dst := some 92, op := .pick (.t 88) (.c (.b true)) (.t 91), grd := some (84, true) },
  { dst := some 93, op := .pick (.t 84) (.t 92) (.c (.b false)) },
  { dst := some 4, op := .mv (.t 93) }])
 .ret)
 (.seq (.reg false [{ dst := some 95, op := .bin .eql (.t 80) (.c (.i .i64 2)) },
  { dst := some 94, op := .mv (.t 95) }])
 (.cond (.t 94) (.seq (.reg false [{ dst := some 96, op := .mv (.t 6) },
  { dst := some 97, op := .mv (.t 96) },
  { dst := some 98, op := .fa 2 (.t 5), grd := some (97, true) },
  { dst := some 99, op := .ld none (.t 98), grd := some (97, true) },
  { dst := some 100, op := .bin .eql (.t 99) (.c (.i .i64 0)), grd := some (97, true) },
  { dst := some 101, op := .mv (.t 100), grd := some (97, true) },
  { dst := some 102, op := .fa 2 (.t 5), grd := some (101, false) },
  { dst := some 103, op := .ld none (.t 102), grd := some (101, false) },
  { dst := some 104, op := .bin .eql (.t 103) (.c (.i .i64 2)), grd := some (101, false) },
  { dst := some 105, op := .pick (.t 101) (.c (.b true)) (.t 104), grd := some (97, true) },
  { dst := some 106, op := .pick (.t 97) (.t 105) (.c (.b false)) },
  { dst := some 4, op := .mv (.t 106) }])
 .ret)
 (.seq (.reg false [{ dst := some 108, op := .bin .eql (.t 80) (.c (.i .i64 3)) },
  { dst := some 107, op := .mv (.t 108) }])
 (.cond (.t 107) (.seq (.reg false [{ dst := some 109, op := .fa 2 (.t 5) },
  { dst := some 110, op := .ld none (.t 109) },
  { dst := some 111, op := .bin .geq (.t 110) (.c (.i .i64 1)) },
  { dst := some 112, op := .mv (.t 111) },
  { dst := some 113, op := .fa 2 (.t 5), grd := some (112, true) },
  { dst := some 114, op := .ld none (.t 113), grd := some (112, true) },
  { dst := some 115, op := .bin .leq (.t 114) (.c (.i .i64 4)), grd := some (112, true) },
  { dst := some 116, op := .pick (.t 112) (.t 115) (.c (.b false)) },
  { dst := some 117, op := .mv (.t 116) },
  { dst := some 118, op := .fa 3 (.t 5), grd := some (117, true) },
  { dst := some 119, op := .ld none (.t 118), grd := some (117, true) },
  { dst := some 120, op := .bin .eql (.t 119) (.c (.i .i64 0)), grd := some (117, true) },
  { dst := some 121, op := .pick (.t 117) (.t 120) (.c (.b false)) },
  { dst := some 122, op := .mv (.t 121) },
  { dst := some 123, op := .fa 4 (.t 5), grd := some (122, true) },
  { dst := some 124, op := .ld none (.t 123), grd := some (122, true) },
  { dst := some 125, op := .bin .eql (.t 124) (.c (.i .i64 0)), grd := some (122, true) },
  { dst := some 126, op := .pick (.t 122) (.t 125) (.c (.b false)) },
  { dst := some 127, op := .mv (.t 126) },
  { dst := some 128, op := .fa 5 (.t 5), grd := some (127, true) },
  { dst := some 129, op := .ld none (.t 128), grd := some (127, true) },
  { dst := some 130, op := .un .not (.t 129), grd := some (127, true) },
  { dst := some 131, op := .pick (.t 127) (.t 130) (.c (.b false)) },
  { dst := some 4, op := .mv (.t 131) }])
 .ret)
 .skip))))))))
 (.seq (.reg false [{ dst := some 4, op := .mv (.c (.b false)) }])
 .ret))))))) }
def A_xref06_rf : AFun := { res := [.t 4], body := (.seq (.reg false [{ dst := some 2, op := .box (.t 0) },
  { dst := some 4, op := .mv (.c (.b false)) }])
 (.seq (.reg true [{ dst := some 8, op := .fa 1 (.t 2) },
  { dst := some 9, op := .ld none (.t 8), pre := [] },
  { dst := some 10, op := .mv (.t 1) },
  { dst := some 11, op := .ia 6 (.t 9) (.t 10) },
  { dst := some 12, op := .ld (some 6) (.t 11), pre := [] },
  { dst := some 13, op := .fa 2 (.t 2) },
  { dst := some 14, op := .ld none (.t 13), pre := [] },
  { dst := some 15, op := .mv (.t 1) },
  { dst := some 16, op := .ia 1 (.t 14) (.t 15) },
  { dst := some 17, op := .ld none (.t 16), pre := [] },
  { dst := some 5, op := .new (List.replicate 5 (.i .i64 0) ++ [.b false]) },
  { dst := none, op := .stL 6 (.t 5) (.t 12), pre := [10] },
  { dst := some 6, op := .mv (.t 17) }])
 (.seq (.seq (.reg false [{ dst := some 18, op := .fa 1 (.t 5) },
  { dst := some 19, op := .ld none (.t 18) },
  { dst := some 20, op := .bin .neq (.t 19) (.c (.i .i64 1)) }])
 (.cond (.t 20) (.seq (.reg false [{ dst := some 21, op := .mv (.t 6) },
  { dst := some 22, op := .bin .eql (.t 21) (.c (.i .i64 (-1))) },
  { dst := some 4, op := .mv (.t 22) }])
 .ret)
 .skip))
 (.seq (.seq (.reg false [{ dst := some 23, op := .mv (.t 6) },
  { dst := some 24, op := .bin .lss (.t 23) (.c (.i .i64 0)) },
  { dst := some 25, op := .mv (.t 24) },
  { dst := some 26, op := .mv (.t 6), grd := some (25, false) },
  { dst := some 27, op := .fa 1 (.t 2), grd := some (25, false) },
  { dst := some 28, op := .ld none (.t 27), grd := some (25, false) },
  { dst := some 29, op := .len (.t 28), grd := some (25, false) },
  { dst := some 30, op := .bin .geq (.t 26) (.t 29), grd := some (25, false) },
  { dst := some 31, op := .pick (.t 25) (.c (.b true)) (.t 30) }])
 (.cond (.t 31) (.seq (.reg false [{ dst := some 4, op := .mv (.c (.b false)) }])
 .ret)
 .skip))
 (.seq (.reg false [{ dst := some 32, op := .fa 1 (.t 2) },
  { dst := some 33, op := .ld none (.t 32) },
  { dst := some 34, op := .mv (.t 6) },
  { dst := some 35, op := .ia 6 (.t 33) (.t 34) },
  { dst := some 36, op := .ld (some 6) (.t 35) },
  { dst := some 7, op := .new (List.replicate 5 (.i .i64 0) ++ [.b false]) },
  { dst := none, op := .st 6 (.t 7) (.t 36) }])
 (.seq (.reg false [{ dst := some 37, op := .fa 1 (.t 7) },
  { dst := some 38, op := .ld none (.t 37) },
  { dst := some 39, op := .bin .eql (.t 38) (.c (.i .i64 2)) },
  { dst := some 40, op := .mv (.t 39) },
  { dst := some 41, op := .fa 3 (.t 7), grd := some (40, true) },
  { dst := some 42, op := .ld none (.t 41), grd := some (40, true) },
  { dst := some 43, op := .fa 3 (.t 5), grd := some (40, true) },
  { dst := some 44, op := .ld none (.t 43), grd := some (40, true) },
  { dst := some 45, op := .bin .eql (.t 42) (.t 44), grd := some (40, true) },
  { dst := some 46, op := .pick (.t 40) (.t 45) (.c (.b false)) },
  { dst := some 47, op := .mv (.t 46) },
  { dst := some 48, op := .fa 4 (.t 7), grd := some (47, true) },
  { dst := some 49, op := .ld none (.t 48), grd := some (47, true) },
  { dst := some 50, op := .fa 4 (.t 5), grd := some (47, true) },
  { dst := some 51, op := .ld none (.t 50), grd := some (47, true) },
  { dst := some 52, op := .bin .eql (.t 49) (.t 51), grd := some (47, true) },
  { dst := some 53, op := .pick (.t 47) (.t 52) (.c (.b false)) },
  { dst := some 4, op := .mv (.t 53) }])
 .ret)))))) }
def A_xref06_co : AFun := { res := [.t 4], body := (.seq (.reg false [{ dst := some 2, op := .box (.t 0) },
  { dst := some 4, op := .mv (.c (.b false)) }])
 (.seq (.reg false [{ dst := some 10, op := .fa 3 (.t 2) },
  { dst := some 11, op := .ld none (.t 10) },
  { dst := some 12, op := .mv (.t 1) },
  { dst := some 13, op := .ia 1 (.t 11) (.t 12) },
  { dst := some 14, op := .ld none (.t 13) },
  { dst := some 5, op := .mv (.t 14) }])
 (.seq (.reg false [{ dst := some 6, op := .mv (.c (.i .i64 0)) }])
 (.seq (.seq (.reg false [{ dst := some 7, op := .mv (.c (.i .i64 0)) }])
 (.blk 0 (.loop (.seq (.seq (.reg false [{ dst := some 15, op := .mv (.t 7) },
  { dst := some 16, op := .fa 1 (.t 2) },
  { dst := some 17, op := .ld none (.t 16) },
  { dst := some 18, op := .len (.t 17) },
  { dst := some 19, op := .bin .lss (.t 15) (.t 18) }])
 (.cond (.t 19) .skip
 (.ext 0)))
 (.seq (.blk 1 (.seq (.reg false [{ dst := some 22, op := .fa 1 (.t 2) },
  { dst := some 23, op := .ld none (.t 22) },
  { dst := some 24, op := .mv (.t 7) },
  { dst := some 25, op := .ia 6 (.t 23) (.t 24) },
  { dst := some 26, op := .fa 1 (.t 25) },
  { dst := some 27, op := .ld none (.t 26) },
  { dst := some 28, op := .bin .eql (.t 27) (.c (.i .i64 2)) },
  { dst := some 29, op := .mv (.t 28) },
  { dst := some 30, op := .fa 1 (.t 2), grd := some (29, true) },
  { dst := some 31, op := .ld none (.t 30), grd := some (29, true) },
  { dst := some 32, op := .mv (.t 7), grd := some (29, true) },
  { dst := some 33, op := .ia 6 (.t 31) (.t 32), grd := some (29, true) },
  { dst := some 34, op := .fa 3 (.t 33), grd := some (29, true) },
  { dst := some 35, op := .ld none (.t 34), grd := some (29, true) },
  { dst := some 36, op := .mv (.t 1), grd := some (29, true) },
  { dst := some 37, op := .bin .eql (.t 35) (.t 36), grd := some (29, true) },
  { dst := some 38, op := .pick (.t 29) (.t 37) (.c (.b false)) }])
 (.cond (.t 38) (.reg false [{ dst := some 39, op := .mv (.t 6) },
  { dst := some 40, op := .bin .add (.t 39) (.c (.i .i64 1)) },
  { dst := some 6, op := .mv (.t 40) }])
 .skip)))
 (.reg false [{ dst := some 20, op := .mv (.t 7) },
  { dst := some 21, op := .bin .add (.t 20) (.c (.i .i64 1)) },
  { dst := some 7, op := .mv (.t 21) }]))))))
 (.seq (.seq (.reg false [{ dst := some 8, op := .mv (.c (.i .i64 0)) }])
 (.blk 2 (.loop (.seq (.seq (.reg false [{ dst := some 41, op := .mv (.t 8) },
  { dst := some 42, op := .mv (.t 5) },
  { dst := some 43, op := .len (.t 42) },
  { dst := some 44, op := .bin .lss (.t 41) (.t 43) }])
 (.cond (.t 44) .skip
 (.ext 2)))
 (.seq (.blk 3 (.seq (.seq (.reg true [{ dst := some 47, op := .mv (.t 5) },
  { dst := some 48, op := .mv (.t 8) },
  { dst := some 49, op := .ia 1 (.t 47) (.t 48) },
  { dst := some 50, op := .ld none (.t 49), pre := [] },
  { dst := some 51, op := .bin .lss (.t 50) (.c (.i .i64 0)) },
  { dst := some 52, op := .mv (.t 51) },
  { dst := some 53, op := .mv (.t 5), grd := some (52, false) },
  { dst := some 54, op := .mv (.t 8), grd := some (52, false) },
  { dst := some 55, op := .ia 1 (.t 53) (.t 54), grd := some (52, false) },
  { dst := some 56, op := .ld none (.t 55), grd := some (52, false), pre := [] },
  { dst := some 57, op := .fa 1 (.t 2), grd := some (52, false) },
  { dst := some 58, op := .ld none (.t 57), grd := some (52, false), pre := [] },
  { dst := some 59, op := .len (.t 58), grd := some (52, false) },
  { dst := some 60, op := .bin .geq (.t 56) (.t 59), grd := some (52, false) },
  { dst := some 61, op := .pick (.t 52) (.c (.b true)) (.t 60) },
  { dst := some 62, op := .mv (.t 61) },
  { dst := some 63, op := .fa 1 (.t 2), grd := some (62, false) },
  { dst := some 64, op := .ld none (.t 63), grd := some (62, false), pre := [] },
  { dst := some 65, op := .mv (.t 5), grd := some (62, false) },
  { dst := some 66, op := .mv (.t 8), grd := some (62, false) },
  { dst := some 67, op := .ia 1 (.t 65) (.t 66), grd := some (62, false) },
  { dst := some 68, op := .ld none (.t 67), grd := some (62, false), pre := [] },
  { dst := some 69, op := .ia 6 (.t 64) (.t 68), grd := some (62, false) },
  { dst := some 70, op := .fa 1 (.t 69), grd := some (62, false) },
  { dst := some 71, op := .ld none (.t 70), grd := some (62, false), pre := [] },
  { dst := some 72, op := .bin .neq (.t 71) (.c (.i .i64 2)), grd := some (62, false) },
  { dst := some 73, op := .pick (.t 62) (.c (.b true)) (.t 72) },
  { dst := some 74, op := .mv (.t 73) },
  { dst := some 75, op := .fa 1 (.t 2), grd := some (74, false) },
  { dst := some 76, op := .ld none (.t 75), grd := some (74, false), pre := [] },
  { dst := some 77, op := .mv (.t 5), grd := some (74, false) },
  { dst := some 78, op := .mv (.t 8), grd := some (74, false) },
  { dst := some 79, op := .ia 1 (.t 77) (.t 78), grd := some (74, false) },
  { dst := some 80, op := .ld none (.t 79), grd := some (74, false), pre := [] },
  { dst := some 81, op := .ia 6 (.t 76) (.t 80), grd := some (74, false) },
  { dst := some 82, op := .fa 3 (.t 81), grd := some (74, false) },
  { dst := some 83, op := .ld none (.t 82), grd := some (74, false), pre := [] },
  { dst := some 84, op := .mv (.t 1), grd := some (74, false) },
  { dst := some 85, op := .bin .neq (.t 83) (.t 84), grd := some (74, false) },
  { dst := some 86, op := .pick (.t 74) (.c (.b true)) (.t 85) }])
 (.cond (.t 86) (.seq (.reg false [{ dst := some 4, op := .mv (.c (.b false)) }])
 .ret)
 .skip))
 (.seq (.reg false [{ dst := some 9, op := .mv (.c (.i .i64 0)) }])
 (.blk 4 (.loop (.seq (.seq (.reg false [{ dst := some 87, op := .mv (.t 9) },
  { dst := some 88, op := .mv (.t 8) },
  { dst := some 89, op := .bin .lss (.t 87) (.t 88) }])
 (.cond (.t 89) .skip
 (.ext 4)))
 (.seq (.blk 5 (.seq (.reg true [{ dst := some 92, op := .mv (.t 5) },
  { dst := some 93, op := .mv (.t 9) },
  { dst := some 94, op := .ia 1 (.t 92) (.t 93) },
  { dst := some 95, op := .ld none (.t 94), pre := [] },
  { dst := some 96, op := .mv (.t 5) },
  { dst := some 97, op := .mv (.t 8) },
  { dst := some 98, op := .ia 1 (.t 96) (.t 97) },
  { dst := some 99, op := .ld none (.t 98), pre := [] },
  { dst := some 100, op := .bin .eql (.t 95) (.t 99) }])
 (.cond (.t 100) (.seq (.reg false [{ dst := some 4, op := .mv (.c (.b false)) }])
 .ret)
 .skip)))
 (.reg false [{ dst := some 90, op := .mv (.t 9) },
  { dst := some 91, op := .bin .add (.t 90) (.c (.i .i64 1)) },
  { dst := some 9, op := .mv (.t 91) }]))))))))
 (.reg false [{ dst := some 45, op := .mv (.t 8) },
  { dst := some 46, op := .bin .add (.t 45) (.c (.i .i64 1)) },
  { dst := some 8, op := .mv (.t 46) }]))))))
 (.seq (.reg false [{ dst := some 101, op := .mv (.t 5) },
  { dst := some 102, op := .len (.t 101) },
  { dst := some 103, op := .mv (.t 6) },
  { dst := some 104, op := .bin .eql (.t 102) (.t 103) },
  { dst := some 105, op := .mv (.t 104) },
  { dst := some 106, op := .mv (.t 6), grd := some (105, true) },
  { dst := some 107, op := .bin .gtr (.t 106) (.c (.i .i64 0)), grd := some (105, true) },
  { dst := some 108, op := .pick (.t 105) (.t 107) (.c (.b false)) },
  { dst := some 109, op := .mv (.t 108) },
  { dst := some 110, op := .mv (.t 5), grd := some (109, true) },
  { dst := some 111, op := .ia 1 (.t 110) (.c (.i .i64 0)), grd := some (109, true) },
  { dst := some 112, op := .ld none (.t 111), grd := some (109, true) },
  { dst := some 113, op := .mv (.t 1), grd := some (109, true) },
  { dst := some 114, op := .bin .eql (.t 112) (.t 113), grd := some (109, true) },
  { dst := some 115, op := .pick (.t 109) (.t 114) (.c (.b false)) },
  { dst := some 4, op := .mv (.t 115) }])
 .ret)))))) }
def A_xref06_rmw : AFun := { res := [.t 2], body := (.seq (.reg false [{ dst := some 1, op := .box (.t 0) },
  { dst := some 2, op := .mv (.c (.b false)) }])
 (.seq (.reg false [{ dst := some 3, op := .new (List.replicate 40 (.i .i64 0)) }])
 (.seq (.seq (.reg false [{ dst := some 4, op := .mv (.c (.i .i64 0)) }])
 (.blk 0 (.loop (.seq (.seq (.reg false [{ dst := some 10, op := .mv (.t 4) },
  { dst := some 11, op := .fa 4 (.t 1) },
  { dst := some 12, op := .ld none (.t 11) },
  { dst := some 13, op := .len (.t 12) },
  { dst := some 14, op := .bin .lss (.t 10) (.t 13) }])
 (.cond (.t 14) .skip
 (.ext 0)))
 (.seq (.blk 1 (.seq (.reg true [{ dst := some 17, op := .fa 4 (.t 1) },
  { dst := some 18, op := .ld none (.t 17), pre := [] },
  { dst := some 19, op := .mv (.t 4) },
  { dst := some 20, op := .ia 2 (.t 18) (.t 19) },
  { dst := some 21, op := .fa 0 (.t 20) },
  { dst := some 22, op := .ld none (.t 21), pre := [] },
  { dst := some 23, op := .fa 4 (.t 1) },
  { dst := some 24, op := .ld none (.t 23), pre := [] },
  { dst := some 25, op := .mv (.t 4) },
  { dst := some 26, op := .ia 2 (.t 24) (.t 25) },
  { dst := some 27, op := .fa 1 (.t 26) },
  { dst := some 28, op := .ld none (.t 27), pre := [] },
  { dst := some 5, op := .mv (.t 22) },
  { dst := some 6, op := .mv (.t 28) }])
 (.seq (.seq (.reg false [{ dst := some 29, op := .mv (.t 5) },
  { dst := some 30, op := .bin .lss (.t 29) (.c (.i .i64 0)) },
  { dst := some 31, op := .mv (.t 30) },
  { dst := some 32, op := .mv (.t 5), grd := some (31, false) },
  { dst := some 33, op := .fa 1 (.t 1), grd := some (31, false) },
  { dst := some 34, op := .ld none (.t 33), grd := some (31, false) },
  { dst := some 35, op := .len (.t 34), grd := some (31, false) },
  { dst := some 36, op := .bin .sub (.t 35) (.c (.i .i64 1)), grd := some (31, false) },
  { dst := some 37, op := .bin .geq (.t 32) (.t 36), grd := some (31, false) },
  { dst := some 38, op := .pick (.t 31) (.c (.b true)) (.t 37) },
  { dst := some 39, op := .mv (.t 38) },
  { dst := some 40, op := .mv (.t 6), grd := some (39, false) },
  { dst := some 41, op := .mv (.t 5), grd := some (39, false) },
  { dst := some 42, op := .bin .add (.t 41) (.c (.i .i64 1)), grd := some (39, false) },
  { dst := some 43, op := .bin .neq (.t 40) (.t 42), grd := some (39, false) },
  { dst := some 44, op := .pick (.t 39) (.c (.b true)) (.t 43) }])
 (.cond (.t 44) (.seq (.reg false [{ dst := some 2, op := .mv (.c (.b false)) }])
 .ret)
 .skip))
 (.seq (.reg true [{ dst := some 45, op := .fa 1 (.t 1) },
  { dst := some 46, op := .ld none (.t 45), pre := [] },
  { dst := some 47, op := .mv (.t 5) },
  { dst := some 48, op := .ia 6 (.t 46) (.t 47) },
  { dst := some 49, op := .ld (some 6) (.t 48), pre := [] },
  { dst := some 50, op := .fa 1 (.t 1) },
  { dst := some 51, op := .ld none (.t 50), pre := [] },
  { dst := some 52, op := .mv (.t 6) },
  { dst := some 53, op := .ia 6 (.t 51) (.t 52) },
  { dst := some 54, op := .ld (some 6) (.t 53), pre := [] },
  { dst := some 7, op := .new (List.replicate 5 (.i .i64 0) ++ [.b false]) },
  { dst := some 8, op := .new (List.replicate 5 (.i .i64 0) ++ [.b false]) },
  { dst := none, op := .stL 6 (.t 7) (.t 49), pre := [10] },
  { dst := none, op := .stL 6 (.t 8) (.t 54), pre := [11] }])
 (.seq (.seq (.reg false [{ dst := some 55, op := .fa 0 (.t 7) },
  { dst := some 56, op := .ld none (.t 55) },
  { dst := some 57, op := .fa 0 (.t 8) },
  { dst := some 58, op := .ld none (.t 57) },
  { dst := some 59, op := .bin .neq (.t 56) (.t 58) },
  { dst := some 60, op := .mv (.t 59) },
  { dst := some 61, op := .fa 1 (.t 7), grd := some (60, false) },
  { dst := some 62, op := .ld none (.t 61), grd := some (60, false) },
  { dst := some 63, op := .bin .neq (.t 62) (.c (.i .i64 1)), grd := some (60, false) },
  { dst := some 64, op := .pick (.t 60) (.c (.b true)) (.t 63) },
  { dst := some 65, op := .mv (.t 64) },
  { dst := some 66, op := .fa 1 (.t 8), grd := some (65, false) },
  { dst := some 67, op := .ld none (.t 66), grd := some (65, false) },
  { dst := some 68, op := .bin .neq (.t 67) (.c (.i .i64 2)), grd := some (65, false) },
  { dst := some 69, op := .pick (.t 65) (.c (.b true)) (.t 68) },
  { dst := some 70, op := .mv (.t 69) },
  { dst := some 71, op := .fa 3 (.t 7), grd := some (70, false) },
  { dst := some 72, op := .ld none (.t 71), grd := some (70, false) },
  { dst := some 73, op := .fa 3 (.t 8), grd := some (70, false) },
  { dst := some 74, op := .ld none (.t 73), grd := some (70, false) },
  { dst := some 75, op := .bin .neq (.t 72) (.t 74), grd := some (70, false) },
  { dst := some 76, op := .pick (.t 70) (.c (.b true)) (.t 75) },
  { dst := some 77, op := .mv (.t 76) },
  { dst := some 78, op := .fa 5 (.t 7), grd := some (77, false) },
  { dst := some 79, op := .ld none (.t 78), grd := some (77, false) },
  { dst := some 80, op := .un .not (.t 79), grd := some (77, false) },
  { dst := some 81, op := .pick (.t 77) (.c (.b true)) (.t 80) },
  { dst := some 82, op := .mv (.t 81) },
  { dst := some 83, op := .fa 5 (.t 8), grd := some (82, false) },
  { dst := some 84, op := .ld none (.t 83), grd := some (82, false) },
  { dst := some 85, op := .un .not (.t 84), grd := some (82, false) },
  { dst := some 86, op := .pick (.t 82) (.c (.b true)) (.t 85) }])
 (.cond (.t 86) (.seq (.reg false [{ dst := some 2, op := .mv (.c (.b false)) }])
 .ret)
 .skip))
 (.seq (.reg false [{ dst := some 87, op := .mv (.t 5) },
  { dst := some 88, op := .iaa 40 1 (.t 3) (.t 87) },
  { dst := some 89, op := .ld none (.t 88) },
  { dst := some 90, op := .bin .add (.t 89) (.c (.i .i64 1)) },
  { dst := some 91, op := .iaa 40 1 (.t 3) (.t 87) },
  { dst := none, op := .st 1 (.t 91) (.t 90) }])
 (.reg false [{ dst := some 92, op := .mv (.t 6) },
  { dst := some 93, op := .iaa 40 1 (.t 3) (.t 92) },
  { dst := some 94, op := .ld none (.t 93) },
  { dst := some 95, op := .bin .add (.t 94) (.c (.i .i64 1)) },
  { dst := some 96, op := .iaa 40 1 (.t 3) (.t 92) },
  { dst := none, op := .st 1 (.t 96) (.t 95) }])))))))
 (.reg false [{ dst := some 15, op := .mv (.t 4) },
  { dst := some 16, op := .bin .add (.t 15) (.c (.i .i64 1)) },
  { dst := some 4, op := .mv (.t 16) }]))))))
 (.seq (.seq (.reg false [{ dst := some 9, op := .mv (.c (.i .i64 0)) }])
 (.blk 2 (.loop (.seq (.seq (.reg false [{ dst := some 97, op := .mv (.t 9) },
  { dst := some 98, op := .fa 1 (.t 1) },
  { dst := some 99, op := .ld none (.t 98) },
  { dst := some 100, op := .len (.t 99) },
  { dst := some 101, op := .bin .lss (.t 97) (.t 100) }])
 (.cond (.t 101) .skip
 (.ext 2)))
 (.seq (.blk 3 (.seq (.reg true [{ dst := some 104, op := .mv (.t 9) },
  { dst := some 105, op := .iaa 40 1 (.t 3) (.t 104) },
  { dst := some 106, op := .ld none (.t 105), pre := [] },
  { dst := some 107, op := .bin .gtr (.t 106) (.c (.i .i64 1)) },
  { dst := some 108, op := .mv (.t 107) },
  { dst := some 109, op := .fa 1 (.t 1), grd := some (108, false) },
  { dst := some 110, op := .ld none (.t 109), grd := some (108, false), pre := [] },
  { dst := some 111, op := .mv (.t 9), grd := some (108, false) },
  { dst := some 112, op := .ia 6 (.t 110) (.t 111), grd := some (108, false) },
  { dst := some 113, op := .fa 5 (.t 112), grd := some (108, false) },
  { dst := some 114, op := .ld none (.t 113), grd := some (108, false), pre := [] },
  { dst := some 115, op := .mv (.t 9), grd := some (108, false) },
  { dst := some 116, op := .iaa 40 1 (.t 3) (.t 115), grd := some (108, false) },
  { dst := some 117, op := .ld none (.t 116), grd := some (108, false), pre := [] },
  { dst := some 118, op := .bin .eql (.t 117) (.c (.i .i64 1)), grd := some (108, false) },
  { dst := some 119, op := .eqb true (.t 114) (.t 118), grd := some (108, false) },
  { dst := some 120, op := .pick (.t 108) (.c (.b true)) (.t 119) }])
 (.cond (.t 120) (.seq (.reg false [{ dst := some 2, op := .mv (.c (.b false)) }])
 .ret)
 .skip)))
 (.reg false [{ dst := some 102, op := .mv (.t 9) },
  { dst := some 103, op := .bin .add (.t 102) (.c (.i .i64 1)) },
  { dst := some 9, op := .mv (.t 103) }]))))))
 (.seq (.reg false [{ dst := some 121, op := .fa 4 (.t 1) },
  { dst := some 122, op := .ld none (.t 121) },
  { dst := some 123, op := .call .pure (.c (.fn 82 [] [])) [.t 122] },
  { dst := some 2, op := .mv (.t 123) }])
 .ret))))) }
def A_xref06_deps : AFun := { res := [.t 4], body := (.seq (.reg false [{ dst := some 2, op := .box (.t 0) },
  { dst := some 4, op := .mv (.c (.b false)) }])
 (.seq (.seq (.reg false [{ dst := some 5, op := .mv (.c (.i .i64 0)) }])
 (.blk 0 (.loop (.seq (.seq (.reg false [{ dst := some 8, op := .mv (.t 5) },
  { dst := some 9, op := .mv (.t 1) },
  { dst := some 10, op := .len (.t 9) },
  { dst := some 11, op := .bin .lss (.t 8) (.t 10) }])
 (.cond (.t 11) .skip
 (.ext 0)))
 (.seq (.blk 1 (.seq (.reg true [{ dst := some 14, op := .mv (.t 1) },
  { dst := some 15, op := .mv (.t 5) },
  { dst := some 16, op := .ia 2 (.t 14) (.t 15) },
  { dst := some 17, op := .fa 0 (.t 16) },
  { dst := some 18, op := .ld none (.t 17), pre := [] },
  { dst := some 19, op := .mv (.t 1) },
  { dst := some 20, op := .mv (.t 5) },
  { dst := some 21, op := .ia 2 (.t 19) (.t 20) },
  { dst := some 22, op := .fa 1 (.t 21) },
  { dst := some 23, op := .ld none (.t 22), pre := [] },
  { dst := some 6, op := .mv (.t 18) },
  { dst := some 7, op := .mv (.t 23) }])
 (.seq (.reg true [{ dst := some 24, op := .mv (.t 6) },
  { dst := some 25, op := .bin .lss (.t 24) (.c (.i .i64 0)) },
  { dst := some 26, op := .mv (.t 25) },
  { dst := some 27, op := .mv (.t 7), grd := some (26, false) },
  { dst := some 28, op := .mv (.t 6), grd := some (26, false) },
  { dst := some 29, op := .bin .leq (.t 27) (.t 28), grd := some (26, false) },
  { dst := some 30, op := .pick (.t 26) (.c (.b true)) (.t 29) },
  { dst := some 31, op := .mv (.t 30) },
  { dst := some 32, op := .mv (.t 7), grd := some (31, false) },
  { dst := some 33, op := .fa 1 (.t 2), grd := some (31, false) },
  { dst := some 34, op := .ld none (.t 33), grd := some (31, false), pre := [] },
  { dst := some 35, op := .len (.t 34), grd := some (31, false) },
  { dst := some 36, op := .bin .geq (.t 32) (.t 35), grd := some (31, false) },
  { dst := some 37, op := .pick (.t 31) (.c (.b true)) (.t 36) },
  { dst := some 38, op := .mv (.t 37) },
  { dst := some 39, op := .fa 1 (.t 2), grd := some (38, false) },
  { dst := some 40, op := .ld none (.t 39), grd := some (38, false), pre := [] },
  { dst := some 41, op := .mv (.t 6), grd := some (38, false) },
  { dst := some 42, op := .ia 6 (.t 40) (.t 41), grd := some (38, false) },
  { dst := some 43, op := .fa 1 (.t 42), grd := some (38, false) },
  { dst := some 44, op := .ld none (.t 43), grd := some (38, false), pre := [] },
  { dst := some 45, op := .bin .neq (.t 44) (.c (.i .i64 1)), grd := some (38, false) },
  { dst := some 46, op := .pick (.t 38) (.c (.b true)) (.t 45) },
  { dst := some 47, op := .mv (.t 46) },
  { dst := some 48, op := .fa 1 (.t 2), grd := some (47, false) },
  { dst := some 49, op := .ld none (.t 48), grd := some (47, false), pre := [] },
  { dst := some 50, op := .mv (.t 6), grd := some (47, false) },
  { dst := some 51, op := .ia 6 (.t 49) (.t 50), grd := some (47, false) },
  { dst := some 52, op := .fa 0 (.t 51), grd := some (47, false) },
  { dst := some 53, op := .ld none (.t 52), grd := some (47, false), pre := [] },
  { dst := some 54, op := .fa 1 (.t 2), grd := some (47, false) },
  { dst := some 55, op := .ld none (.t 54), grd := some (47, false), pre := [] },
  { dst := some 56, op := .mv (.t 7), grd := some (47, false) },
  { dst := some 57, op := .ia 6 (.t 55) (.t 56), grd := some (47, false) },
  { dst := some 58, op := .fa 0 (.t 57), grd := some (47, false) },
  { dst := some 59, op := .ld none (.t 58), grd := some (47, false), pre := [] },
  { dst := some 60, op := .bin .neq (.t 53) (.t 59), grd := some (47, false) },
  { dst := some 61, op := .pick (.t 47) (.c (.b true)) (.t 60) }])
 (.cond (.t 61) (.seq (.reg false [{ dst := some 4, op := .mv (.c (.b false)) }])
 .ret)
 .skip))))
 (.reg false [{ dst := some 12, op := .mv (.t 5) },
  { dst := some 13, op := .bin .add (.t 12) (.c (.i .i64 1)) },
  { dst := some 5, op := .mv (.t 13) }]))))))
 (.seq (.reg false [{ dst := some 62, op := .mv (.t 1) },
  { dst := some 63, op := .call .pure (.c (.fn 82 [] [])) [.t 62] },
  { dst := some 4, op := .mv (.t 63) }])
 .ret))) }
def A_xref06_rising : AFun := { res := [.t 2], body := (.seq (.reg false [{ dst := some 2, op := .mv (.c (.b false)) }])
 (.seq (.seq (.reg false [{ dst := some 3, op := .mv (.c (.i .i64 1)) }])
 (.blk 0 (.loop (.seq (.seq (.reg false [{ dst := some 4, op := .mv (.t 3) },
  { dst := some 5, op := .mv (.t 0) },
  { dst := some 6, op := .len (.t 5) },
  { dst := some 7, op := .bin .lss (.t 4) (.t 6) }])
 (.cond (.t 7) .skip
 (.ext 0)))
 (.seq (.blk 1 (.seq (.reg true [{ dst := some 10, op := .mv (.t 0) },
  { dst := some 11, op := .mv (.t 3) },
  { dst := some 12, op := .ia 2 (.t 10) (.t 11) },
  { dst := some 13, op := .fa 0 (.t 12) },
  { dst := some 14, op := .ld none (.t 13), pre := [] },
  { dst := some 15, op := .mv (.t 0) },
  { dst := some 16, op := .mv (.t 3) },
  { dst := some 17, op := .bin .sub (.t 16) (.c (.i .i64 1)) },
  { dst := some 18, op := .ia 2 (.t 15) (.t 17) },
  { dst := some 19, op := .fa 0 (.t 18) },
  { dst := some 20, op := .ld none (.t 19), pre := [] },
  { dst := some 21, op := .bin .lss (.t 14) (.t 20) },
  { dst := some 22, op := .mv (.t 21) },
  { dst := some 23, op := .mv (.t 0), grd := some (22, false) },
  { dst := some 24, op := .mv (.t 3), grd := some (22, false) },
  { dst := some 25, op := .ia 2 (.t 23) (.t 24), grd := some (22, false) },
  { dst := some 26, op := .fa 0 (.t 25), grd := some (22, false) },
  { dst := some 27, op := .ld none (.t 26), grd := some (22, false), pre := [] },
  { dst := some 28, op := .mv (.t 0), grd := some (22, false) },
  { dst := some 29, op := .mv (.t 3), grd := some (22, false) },
  { dst := some 30, op := .bin .sub (.t 29) (.c (.i .i64 1)), grd := some (22, false) },
  { dst := some 31, op := .ia 2 (.t 28) (.t 30), grd := some (22, false) },
  { dst := some 32, op := .fa 0 (.t 31), grd := some (22, false) },
  { dst := some 33, op := .ld none (.t 32), grd := some (22, false), pre := [] },
  { dst := some 34, op := .bin .eql (.t 27) (.t 33), grd := some (22, false) },
  { dst := some 35, op := .mv (.t 34), grd := some (22, false) },
  { dst := some 36, op := .mv (.t 0), grd := some (35, true) },
  { dst := some 37, op := .mv (.t 3), grd := some (35, true) },
  { dst := some 38, op := .ia 2 (.t 36) (.t 37), grd := some (35, true) },
  { dst := some 39, op := .fa 1 (.t 38), grd := some (35, true) },
  { dst := some 40, op := .ld none (.t 39), grd := some (35, true), pre := [] },
  { dst := some 41, op := .mv (.t 0), grd := some (35, true) },
  { dst := some 42, op := .mv (.t 3), grd := some (35, true) },
  { dst := some 43, op := .bin .sub (.t 42) (.c (.i .i64 1)), grd := some (35, true) },
  { dst := some 44, op := .ia 2 (.t 41) (.t 43), grd := some (35, true) },
  { dst := some 45, op := .fa 1 (.t 44), grd := some (35, true) },
  { dst := some 46, op := .ld none (.t 45), grd := some (35, true), pre := [] },
  { dst := some 47, op := .bin .leq (.t 40) (.t 46), grd := some (35, true) },
  { dst := some 48, op := .pick (.t 35) (.t 47) (.c (.b false)), grd := some (22, false) },
  { dst := some 49, op := .pick (.t 22) (.c (.b true)) (.t 48) }])
 (.cond (.t 49) (.seq (.reg false [{ dst := some 2, op := .mv (.c (.b false)) }])
 .ret)
 .skip)))
 (.reg false [{ dst := some 8, op := .mv (.t 3) },
  { dst := some 9, op := .bin .add (.t 8) (.c (.i .i64 1)) },
  { dst := some 3, op := .mv (.t 9) }]))))))
 (.seq (.reg false [{ dst := some 2, op := .mv (.c (.b true)) }])
 .ret))) }
def A_xref06_Po : AFun := { res := [.t 2], body := (.seq (.reg false [{ dst := some 1, op := .box (.t 0) },
  { dst := some 2, op := .mv (.c (.nilp)) }])
 (.seq (.reg false [{ dst := some 8, op := .fa 1 (.t 1) },
  { dst := some 9, op := .ld none (.t 8) },
  { dst := some 10, op := .len (.t 9) },
  { dst := some 11, op := .call .thaw (.c (.fn 27 [] [])) [.t 10, .c (.sl [] 0 .rig)] },
  { dst := some 3, op := .mv (.t 11) }])
 (.seq (.seq (.reg false [{ dst := some 4, op := .mv (.c (.i .i64 0)) }])
 (.blk 0 (.loop (.seq (.seq (.reg false [{ dst := some 12, op := .mv (.t 4) },
  { dst := some 13, op := .mv (.t 3) },
  { dst := some 14, op := .nilck (.t 13) },
  { dst := some 15, op := .fa 0 (.t 14) },
  { dst := some 16, op := .ld none (.t 15) },
  { dst := some 17, op := .bin .lss (.t 12) (.t 16) }])
 (.cond (.t 17) .skip
 (.ext 0)))
 (.seq (.blk 1 (.seq (.reg false [{ dst := some 20, op := .mv (.t 4) },
  { dst := some 21, op := .bin .add (.t 20) (.c (.i .i64 1)) },
  { dst := some 5, op := .mv (.t 21) }])
 (.blk 2 (.loop (.seq (.seq (.reg false [{ dst := some 22, op := .mv (.t 5) },
  { dst := some 23, op := .mv (.t 3) },
  { dst := some 24, op := .nilck (.t 23) },
  { dst := some 25, op := .fa 0 (.t 24) },
  { dst := some 26, op := .ld none (.t 25) },
  { dst := some 27, op := .bin .lss (.t 22) (.t 26) }])
 (.cond (.t 27) .skip
 (.ext 2)))
 (.seq (.blk 3 (.seq (.reg true [{ dst := some 30, op := .fa 1 (.t 1) },
  { dst := some 31, op := .ld none (.t 30), pre := [] },
  { dst := some 32, op := .mv (.t 4) },
  { dst := some 33, op := .ia 6 (.t 31) (.t 32) },
  { dst := some 34, op := .fa 0 (.t 33) },
  { dst := some 35, op := .ld none (.t 34), pre := [] },
  { dst := some 36, op := .fa 1 (.t 1) },
  { dst := some 37, op := .ld none (.t 36), pre := [] },
  { dst := some 38, op := .mv (.t 5) },
  { dst := some 39, op := .ia 6 (.t 37) (.t 38) },
  { dst := some 40, op := .fa 0 (.t 39) },
  { dst := some 41, op := .ld none (.t 40), pre := [] },
  { dst := some 6, op := .mv (.t 35) },
  { dst := some 7, op := .mv (.t 41) }])
 (.reg false [{ dst := some 42, op := .mv (.t 3) },
  { dst := some 43, op := .mv (.t 4) },
  { dst := some 44, op := .mv (.t 5) },
  { dst := some 45, op := .mv (.t 6) },
  { dst := some 46, op := .bin .eql (.t 45) (.c (.i .i64 0)) },
  { dst := some 47, op := .mv (.t 46) },
  { dst := some 48, op := .mv (.t 7), grd := some (47, true) },
  { dst := some 49, op := .bin .gtr (.t 48) (.c (.i .i64 0)), grd := some (47, true) },
  { dst := some 50, op := .pick (.t 47) (.t 49) (.c (.b false)) },
  { dst := some 51, op := .mv (.t 50) },
  { dst := some 52, op := .mv (.t 6), grd := some (51, false) },
  { dst := some 53, op := .bin .gtr (.t 52) (.c (.i .i64 0)), grd := some (51, false) },
  { dst := some 54, op := .mv (.t 53), grd := some (51, false) },
  { dst := some 55, op := .mv (.t 6), grd := some (54, true) },
  { dst := some 56, op := .mv (.t 7), grd := some (54, true) },
  { dst := some 57, op := .bin .eql (.t 55) (.t 56), grd := some (54, true) },
  { dst := some 58, op := .pick (.t 54) (.t 57) (.c (.b false)), grd := some (51, false) },
  { dst := some 59, op := .pick (.t 51) (.c (.b true)) (.t 58) },
  { dst := some 60, op := .nilck (.t 42) },
  { dst := some 61, op := .fa 1 (.t 60) },
  { dst := some 62, op := .iaa 40 40 (.t 61) (.t 43) },
  { dst := some 63, op := .iaa 40 1 (.t 62) (.t 44) },
  { dst := none, op := .st 1 (.t 63) (.t 59) }])))
 (.reg false [{ dst := some 28, op := .mv (.t 5) },
  { dst := some 29, op := .bin .add (.t 28) (.c (.i .i64 1)) },
  { dst := some 5, op := .mv (.t 29) }])))))))
 (.reg false [{ dst := some 18, op := .mv (.t 4) },
  { dst := some 19, op := .bin .add (.t 18) (.c (.i .i64 1)) },
  { dst := some 4, op := .mv (.t 19) }]))))))
 (.seq (.reg false [{ dst := some 64, op := .mv (.t 3) },
  { dst := some 2, op := .mv (.t 64) }])
 .ret)))) }
def A_xref06_Of : AFun := { res := [.t 4], body := (.seq (.reg false [{ dst := some 2, op := .box (.t 0) },
  { dst := some 4, op := .mv (.c (.nilp)) }])
 (.seq (.reg false [{ dst := some 5, op := .fa 1 (.t 2) },
  { dst := some 6, op := .ld none (.t 5) },
  { dst := some 7, op := .len (.t 6) },
  { dst := some 8, op := .mv (.t 1) },
  { dst := some 9, op := .call .pure (.c (.fn 27 [] [])) [.t 7, .t 8] },
  { dst := some 4, op := .mv (.t 9) }])
 .ret)) }
def A_xref06_Kind : AFun := { res := [.t 8], body := (.seq (.reg false [{ dst := some 4, op := .box (.t 0) },
  { dst := some 8, op := .mv (.c (.nilp)) }])
 (.seq (.reg false [{ dst := some 12, op := .fa 1 (.t 4) },
  { dst := some 13, op := .ld none (.t 12) },
  { dst := some 14, op := .len (.t 13) },
  { dst := some 15, op := .call .thaw (.c (.fn 27 [] [])) [.t 14, .c (.sl [] 0 .rig)] },
  { dst := some 9, op := .mv (.t 15) }])
 (.seq (.seq (.reg false [{ dst := some 10, op := .mv (.c (.i .i64 0)) }])
 (.blk 0 (.loop (.seq (.seq (.reg false [{ dst := some 16, op := .mv (.t 10) },
  { dst := some 17, op := .mv (.t 9) },
  { dst := some 18, op := .nilck (.t 17) },
  { dst := some 19, op := .fa 0 (.t 18) },
  { dst := some 20, op := .ld none (.t 19) },
  { dst := some 21, op := .bin .lss (.t 16) (.t 20) }])
 (.cond (.t 21) .skip
 (.ext 0)))
 (.seq (.blk 1 (.seq (.reg false [{ dst := some 24, op := .fa 1 (.t 4) },
  { dst := some 25, op := .ld none (.t 24) },
  { dst := some 26, op := .mv (.t 10) },
  { dst := some 27, op := .ia 6 (.t 25) (.t 26) },
  { dst := some 28, op := .ld (some 6) (.t 27) },
  { dst := some 11, op := .new (List.replicate 5 (.i .i64 0) ++ [.b false]) },
  { dst := none, op := .st 6 (.t 11) (.t 28) }])
 (.reg true [{ dst := some 29, op := .mv (.t 9) },
  { dst := some 30, op := .mv (.t 10) },
  { dst := some 31, op := .mv (.t 10) },
  { dst := some 32, op := .fa 1 (.t 11) },
  { dst := some 33, op := .ld none (.t 32), pre := [] },
  { dst := some 34, op := .mv (.t 1) },
  { dst := some 35, op := .bin .eql (.t 33) (.t 34) },
  { dst := some 36, op := .mv (.t 35) },
  { dst := some 37, op := .fa 2 (.t 11), grd := some (36, true) },
  { dst := some 38, op := .ld none (.t 37), grd := some (36, true), pre := [] },
  { dst := some 39, op := .mv (.t 2), grd := some (36, true) },
  { dst := some 40, op := .bin .geq (.t 38) (.t 39), grd := some (36, true) },
  { dst := some 41, op := .pick (.t 36) (.t 40) (.c (.b false)) },
  { dst := some 42, op := .mv (.t 41) },
  { dst := some 43, op := .fa 2 (.t 11), grd := some (42, true) },
  { dst := some 44, op := .ld none (.t 43), grd := some (42, true), pre := [] },
  { dst := some 45, op := .mv (.t 3), grd := some (42, true) },
  { dst := some 46, op := .bin .leq (.t 44) (.t 45), grd := some (42, true) },
  { dst := some 47, op := .pick (.t 42) (.t 46) (.c (.b false)) },
  { dst := some 48, op := .nilck (.t 29) },
  { dst := some 49, op := .fa 1 (.t 48) },
  { dst := some 50, op := .iaa 40 40 (.t 49) (.t 30) },
  { dst := some 51, op := .iaa 40 1 (.t 50) (.t 31) },
  { dst := none, op := .st 1 (.t 51) (.t 47), pre := [] }])))
 (.reg false [{ dst := some 22, op := .mv (.t 10) },
  { dst := some 23, op := .bin .add (.t 22) (.c (.i .i64 1)) },
  { dst := some 10, op := .mv (.t 23) }]))))))
 (.seq (.reg false [{ dst := some 52, op := .mv (.t 9) },
  { dst := some 8, op := .mv (.t 52) }])
 .ret)))) }
structure Pk_xref06 (F : Funs) : Prop where
  xref06_Check : F 45 = some A_xref06_Check
  xref06_event : F 63 = some A_xref06_event
  xref06_rf : F 64 = some A_xref06_rf
  xref06_co : F 65 = some A_xref06_co
  xref06_rmw : F 66 = some A_xref06_rmw
  xref06_deps : F 67 = some A_xref06_deps
  xref06_rising : F 82 = some A_xref06_rising
  xref06_Po : F 84 = some A_xref06_Po
end Go.Ab
end
section
set_option linter.unusedVariables false
set_option linter.unusedSimpArgs false
namespace Go.Ab
variable {F : Funs}
def stU (φ : Nat → Nat → Bool) (n a b : Nat) : Mx := fun i j => if (i < a ∧ i < j ∧ j < n) ∨ (i = a ∧ i < j ∧ j < b) then φ i j else false
theorem stU_succ {φ : Nat → Nat → Bool} {n a b : Nat} (h : a < b) : upd2 (stU φ n a b) a b (φ a b) = stU φ n a (b + 1) := by
  funext i j
  unfold upd2 stU
  by_cases h1 : i = a ∧ j = b
  · obtain ⟨rfl, rfl⟩ := h1
    rw [if_pos ⟨rfl, rfl⟩, if_pos (by omega)]
  · rw [if_neg h1]
    by_cases h2 : (i < a ∧ i < j ∧ j < n) ∨ (i = a ∧ i < j ∧ j < b)
    · rw [if_pos h2, if_pos (by omega)]
    · rw [if_neg h2, if_neg (by omega)]
theorem stU_row (φ : Nat → Nat → Bool) (n a : Nat) : stU φ n a n = stU φ n (a + 1) (a + 1 + 1) := by
  funext i j
  unfold stU
  by_cases h2 : (i < a ∧ i < j ∧ j < n) ∨ (i = a ∧ i < j ∧ j < n)
  · rw [if_pos h2, if_pos (by omega)]
  · rw [if_neg h2, if_neg (by omega)]
theorem stU_0 (φ : Nat → Nat → Bool) (n : Nat) : stU φ n 0 (0 + 1) = fun _ _ => false := by
  funext i j; unfold stU; rw [if_neg (by omega)]
def thI (X : Gr) (i : Nat) : Int := (X.evs.getD i ev0).th
def poV (X : Gr) (i j : Nat) : Bool := (thI X i == 0 && decide (0 < thI X j)) || (decide (0 < thI X i) && thI X i == thI X j)
set_option maxRecDepth 100000 in
set_option maxHeartbeats 4000000 in
theorem po_W (h27 : F 27 = some A_xref01_New) {X : Gr} (hn : X.evs.length ≤ 40) : W F A_xref06_Po.body (argEnv [.agg (grC X)]) g0 (retT A_xref06_Po.res (matC X.evs.length (stU (poV X) X.evs.length X.evs.length (X.evs.length + 1)))) := by
  simp (disch := omega) only [A_xref06_Po, wp, Nat.reduceAdd, Nat.reduceMul, Nat.reduceSub, gl, ml, thaw27 h27]
  refine W_loop (fun q e g => ∃ a : Nat, q = X.evs.length - a ∧ a ≤ X.evs.length ∧ e 1 = .mp 0 0 ∧ e 3 = .mp 5 0 ∧ e 4 = .i .i64 a ∧ g.hp 0 = some (.cells (grC X) false) ∧ g.hp 5 = some (.cells (matC X.evs.length (stU (poV X) X.evs.length a (a + 1))) false) ∧ 5 < g.nx) X.evs.length ?_ ?_
  · refine ⟨0, rfl, Nat.zero_le _, ?_⟩
    simp (disch := omega) only [wp, Nat.reduceAdd, Nat.reduceMul, Nat.reduceSub]
    exact ⟨rfl, by rw [stU_0], by first | omega | (dsimp only; omega)⟩
  · rintro q e g ⟨a, rfl, ha, e1, e3, e4, hg, hm, hnx⟩
    by_cases ha' : a < X.evs.length
    · have ha1 : (a : Int) < X.evs.length := by omega
      have hwa := succ_wrap (k := a) (by omega)
      simp (disch := omega) only [wp, Nat.reduceAdd, Nat.reduceMul, Nat.reduceSub, gl, ml, e1, e3, e4, hg, hm, ha1, hwa]
      refine W_loop (fun q e g => ∃ b : Nat, q = X.evs.length - b ∧ a < b ∧ b ≤ X.evs.length ∧ e 1 = .mp 0 0 ∧ e 3 = .mp 5 0 ∧ e 4 = .i .i64 a ∧ e 5 = .i .i64 b ∧ g.hp 0 = some (.cells (grC X) false) ∧ g.hp 5 = some (.cells (matC X.evs.length (stU (poV X) X.evs.length a b)) false) ∧ 5 < g.nx) (X.evs.length - (a + 1)) ?_ ?_
      · refine ⟨a + 1, rfl, by omega, by omega, ?_⟩
        simp (disch := omega) only [wp, Nat.reduceAdd, Nat.reduceMul, Nat.reduceSub, e1, e3, e4]
        exact ⟨hg, hm, by first | omega | (dsimp only; omega)⟩
      · rintro q e g ⟨b, rfl, hab, hb, e1, e3, e4, e5, hg, hm, hnx⟩
        by_cases hb' : b < X.evs.length
        · have hb1 : (b : Int) < X.evs.length := by omega
          have hwb := succ_wrap (k := b) (by omega)
          have tA := ev_th_at ha'
          have tB := ev_th_at hb'
          have dA : (List.drop (a * 6) (evsC X.evs)).length = X.evs.length * 6 - a * 6 := by rw [List.length_drop, evsC_len]
          have dB : (List.drop (b * 6) (evsC X.evs)).length = X.evs.length * 6 - b * 6 := by rw [List.length_drop, evsC_len]
          have hv : poV X a b = ((thI X a == 0 && decide (0 < thI X b)) || (decide (0 < thI X a) && thI X a == thI X b)) := rfl
          have hs := stU_succ (φ := poV X) (n := X.evs.length) hab
          have hset := fun x => matC_set (n := X.evs.length) (M := stU (poV X) X.evs.length a b) (a := a) (b := b) (x := x) (by omega)
          unfold thI at hv
          generalize (X.evs.getD a ev0).th = ta at tA hv
          generalize (X.evs.getD b ev0).th = tb at tB hv
          generalize poV X a b = v at hs hv
          have fin : ∀ x, x = v → X.evs.length - (b + 1) < X.evs.length - b ∧ upd2 (stU (poV X) X.evs.length a b) a b x = stU (poV X) X.evs.length a (b + 1) := fun x hx => ⟨by omega, by rw [hx, hs]⟩
          cases c1 : (ta == 0)
          case true =>
            by_cases c2 : 0 < tb
            case pos =>
              simp (disch := omega) only [wp, Nat.reduceAdd, Nat.reduceMul, Nat.reduceSub, gl, ml, e1, e3, e4, e5, hg, hm, hb1, tA, tB, dA, dB, c1, c2, hset, hwb]
              obtain ⟨f1, f2⟩ := fin true (by rw [hv, c1, decide_eq_true c2]; rfl)
              exact ⟨_, f1, b + 1, rfl, by omega, by omega, rfl, by rw [f2], by first | omega | (dsimp only; omega)⟩
            have c3 : ¬ 0 < ta := by have : ta = 0 := by simpa using c1
                                     omega
            simp (disch := omega) only [wp, Nat.reduceAdd, Nat.reduceMul, Nat.reduceSub, gl, ml, e1, e3, e4, e5, hg, hm, hb1, tA, tB, dA, dB, c1, c2, c3, hset, hwb]
            obtain ⟨f1, f2⟩ := fin false (by rw [hv, c1, decide_eq_false c2, decide_eq_false c3]; rfl)
            exact ⟨_, f1, b + 1, rfl, by omega, by omega, rfl, by rw [f2], by first | omega | (dsimp only; omega)⟩
          by_cases c3 : 0 < ta
          case neg =>
            simp (disch := omega) only [wp, Nat.reduceAdd, Nat.reduceMul, Nat.reduceSub, gl, ml, e1, e3, e4, e5, hg, hm, hb1, tA, tB, dA, dB, c1, c3, hset, hwb]
            obtain ⟨f1, f2⟩ := fin false (by rw [hv, c1, decide_eq_false c3]; rfl)
            exact ⟨_, f1, b + 1, rfl, by omega, by omega, rfl, by rw [f2], by first | omega | (dsimp only; omega)⟩
          simp (disch := omega) only [wp, Nat.reduceAdd, Nat.reduceMul, Nat.reduceSub, gl, ml, e1, e3, e4, e5, hg, hm, hb1, tA, tB, dA, dB, c1, c3, hset, hwb]
          obtain ⟨f1, f2⟩ := fin (ta == tb) (by rw [hv, c1, decide_eq_true c3]; simp)
          exact ⟨_, f1, b + 1, rfl, by omega, by omega, rfl, by rw [f2], by first | omega | (dsimp only; omega)⟩
        · obtain rfl : b = X.evs.length := by omega
          have hb1 : ¬ ((X.evs.length : Int) < X.evs.length) := by omega
          simp (disch := omega) only [wp, Nat.reduceAdd, Nat.reduceMul, Nat.reduceSub, gl, ml, e1, e3, e4, e5, hg, hm, hb1, hwa]
          exact ⟨X.evs.length - (a + 1), by omega, a + 1, rfl, by omega, rfl, by rw [stU_row], by first | omega | (dsimp only; omega)⟩
    · obtain rfl : a = X.evs.length := by omega
      have ha1 : ¬ ((X.evs.length : Int) < X.evs.length) := by omega
      simp (disch := omega) only [wp, Nat.reduceAdd, Nat.reduceMul, Nat.reduceSub, gl, ml, e1, e3, e4, hg, hm, ha1]
      exact ⟨_, rfl, hm⟩
def mpoM (X : Gr) : Mx := stU (poV X) X.evs.length X.evs.length (X.evs.length + 1)
theorem sp_mPo (h84 : F 84 = some A_xref06_Po) (h27 : F 27 = some A_xref01_New) {X : Gr} (hn : X.evs.length ≤ 40) : pureS F 84 [.agg (grC X)] = some (.ptr (matC X.evs.length (mpoM X))) := pure_of_thaw h84 (matC_flat _ _) (po_W h27 hn)
theorem thaw84 (h84 : F 84 = some A_xref06_Po) (h27 : F 27 = some A_xref01_New) {X : Gr} (hn : X.evs.length ≤ 40) (al : Nat → Bool) (id : Nat) (g : G) : vThaw F al id (.fn 84 [] []) [.agg (grC X)] g = some (.mp id 0, ⟨upd g.hp id (some (.cells (matC X.evs.length (mpoM X)) false)), g.nx⟩) :=
  vThaw_S (bs := [.agg (grC X)]) (by simp only [frzL_cons, frz_gr, frzL_nil, consO_ok]) (thaw_of h84 (matC_flat _ _) (po_W h27 hn)) (by simp only [List.flatMap_cons, List.flatMap_nil, vis_gr, List.append_nil])
end Go.Ab
end
section
set_option linter.unusedVariables false
set_option linter.unusedSimpArgs false
namespace Go.Ab
variable {F : Funs}
def stK (M : Mx) (φ : Nat → Nat → Bool) (n a b : Nat) : Mx := fun i j => if (i < a ∧ j < n) ∨ (i = a ∧ j < b) then M i j && φ i j else M i j
theorem stK_succ (M φ n a b) : upd2 (stK M φ n a b) a b (M a b && φ a b) = stK M φ n a (b + 1) := by
  funext i j
  unfold upd2 stK
  by_cases h1 : i = a ∧ j = b
  · obtain ⟨rfl, rfl⟩ := h1
    rw [if_pos ⟨rfl, rfl⟩, if_pos (by omega)]
  · rw [if_neg h1]
    by_cases h2 : (i < a ∧ j < n) ∨ (i = a ∧ j < b)
    · rw [if_pos h2, if_pos (by omega)]
    · rw [if_neg h2, if_neg (by omega)]
theorem stK_row (M φ n a) : stK M φ n a n = stK M φ n (a + 1) 0 := by
  funext i j
  unfold stK
  by_cases h2 : (i < a ∧ j < n) ∨ (i = a ∧ j < n)
  · rw [if_pos h2, if_pos (by omega)]
  · rw [if_neg h2, if_neg (by omega)]
theorem stK_0 (M φ n) : stK M φ n 0 0 = M := by funext i j; unfold stK; rw [if_neg (by omega)]
theorem stK_at (M φ n a b) : stK M φ n a b a b = M a b := by unfold stK; rw [if_neg (by omega)]
def locV (X : Gr) (i j : Nat) : Bool := (X.evs.getD i ev0).kd != 3 && ((X.evs.getD j ev0).kd != 3 && (X.evs.getD i ev0).lc == (X.evs.getD j ev0).lc)
def locM (X : Gr) : Mx := stK (mpoM X) (locV X) X.evs.length X.evs.length 0
set_option maxRecDepth 100000 in
set_option maxHeartbeats 4000000 in
theorem sp_mLoc (h73 : F 73 = some A_xref09_Loc) (h84 : F 84 = some A_xref06_Po) (h27 : F 27 = some A_xref01_New) {X : Gr} (hn : X.evs.length ≤ 40) : pureS F 73 [.agg (grC X)] = some (.ptr (matC X.evs.length (locM X))) := by
  refine pure_of_thaw h73 (matC_flat _ _) ?_
  have s6 : ∀ b1 b2 b3 b4 b5 b6 c1 c2 c3 c4 c5 c6 : AV, splice [b1, b2, b3, b4, b5, b6] 0 [c1, c2, c3, c4, c5, c6] = [c1, c2, c3, c4, c5, c6] := fun _ _ _ _ _ _ _ _ _ _ _ _ => rfl
  simp (disch := omega) only [A_xref09_Loc, wp, Nat.reduceAdd, Nat.reduceMul, Nat.reduceSub, gl, ml, thaw84 h84 h27 hn]
  generalize hM0 : mpoM X = M0
  have hloc : locM X = stK M0 (locV X) X.evs.length X.evs.length 0 := by unfold locM; rw [hM0]
  refine W_loop (fun q e g => ∃ a : Nat, q = X.evs.length - a ∧ a ≤ X.evs.length ∧ e 1 = .mp 0 0 ∧ e 3 = .mp 3 0 ∧ e 4 = .i .i64 a ∧ g.hp 0 = some (.cells (grC X) false) ∧ g.hp 3 = some (.cells (matC X.evs.length (stK M0 (locV X) X.evs.length a 0)) false) ∧ 3 < g.nx) X.evs.length ?_ ?_
  · refine ⟨0, rfl, Nat.zero_le _, ?_⟩
    simp (disch := omega) only [wp, Nat.reduceAdd, Nat.reduceMul, Nat.reduceSub]
    exact ⟨rfl, by rw [stK_0], by first | omega | (dsimp only; omega)⟩
  · rintro q e g ⟨a, rfl, ha, e1, e3, e4, hg, hm, hnx⟩
    by_cases ha' : a < X.evs.length
    · have ha1 : (a : Int) < X.evs.length := by omega
      have hwa := succ_wrap (k := a) (by omega)
      simp (disch := omega) only [wp, Nat.reduceAdd, Nat.reduceMul, Nat.reduceSub, gl, ml, e1, e3, e4, hg, hm, ha1]
      refine W_loop (fun q e g => ∃ b : Nat, q = X.evs.length - b ∧ b ≤ X.evs.length ∧ e 1 = .mp 0 0 ∧ e 3 = .mp 3 0 ∧ e 4 = .i .i64 a ∧ e 5 = .i .i64 b ∧ g.hp 0 = some (.cells (grC X) false) ∧ g.hp 3 = some (.cells (matC X.evs.length (stK M0 (locV X) X.evs.length a b)) false) ∧ 3 < g.nx) X.evs.length ?_ ?_
      · refine ⟨0, rfl, Nat.zero_le _, ?_⟩
        simp (disch := omega) only [wp, Nat.reduceAdd, Nat.reduceMul, Nat.reduceSub, e1, e3, e4]
        exact ⟨rfl, hg, hm, by first | omega | (dsimp only; omega)⟩
      · rintro q e g ⟨b, rfl, hb, e1, e3, e4, e5, hg, hm, hnx⟩
        by_cases hb' : b < X.evs.length
        · have hb1 : (b : Int) < X.evs.length := by omega
          have hwb := succ_wrap (k := b) (by omega)
          have pa := ev_part ha'
          have pb := ev_part hb'
          have hv : locV X a b = ((X.evs.getD a ev0).kd != 3 && ((X.evs.getD b ev0).kd != 3 && (X.evs.getD a ev0).lc == (X.evs.getD b ev0).lc)) := rfl
          have hs := stK_succ M0 (locV X) X.evs.length a b
          have hat := stK_at M0 (locV X) X.evs.length a b
          have hset := fun x => matC_set (n := X.evs.length) (M := stK M0 (locV X) X.evs.length a b) (a := a) (b := b) (x := x) (by omega)
          generalize X.evs.getD a ev0 = u at pa hv
          generalize X.evs.getD b ev0 = v at pb hv
          obtain ⟨th, kd, md, lc, vl, ex⟩ := u
          obtain ⟨th', kd', md', lc', vl', ex'⟩ := v
          simp only at hv
          generalize locV X a b = z at hs hv
          have fin : ∀ x, x = (M0 a b && z) → X.evs.length - (b + 1) < X.evs.length - b ∧ upd2 (stK M0 (locV X) X.evs.length a b) a b x = stK M0 (locV X) X.evs.length a (b + 1) := fun x hx => ⟨by omega, by rw [hx, hs]⟩
          cases c0 : M0 a b
          case false =>
            rw [c0] at hat
            simp (disch := omega) only [wp, Nat.reduceAdd, Nat.reduceMul, Nat.reduceSub, gl, ml, e1, e3, e4, e5, hg, hm, ha1, hb1, pa, pb, s6, hat, c0, hset, hwb]
            obtain ⟨f1, f2⟩ := fin false (by rw [c0]; rfl)
            exact ⟨_, f1, b + 1, rfl, by omega, rfl, by rw [f2], by first | omega | (dsimp only; omega)⟩
          rw [c0] at hat
          cases c1 : (kd != 3)
          case false =>
            simp (disch := omega) only [wp, Nat.reduceAdd, Nat.reduceMul, Nat.reduceSub, gl, ml, e1, e3, e4, e5, hg, hm, ha1, hb1, pa, pb, s6, hat, c0, c1, hset, hwb]
            obtain ⟨f1, f2⟩ := fin false (by rw [c0, hv, c1]; rfl)
            exact ⟨_, f1, b + 1, rfl, by omega, rfl, by rw [f2], by first | omega | (dsimp only; omega)⟩
          cases c2 : (kd' != 3)
          case false =>
            simp (disch := omega) only [wp, Nat.reduceAdd, Nat.reduceMul, Nat.reduceSub, gl, ml, e1, e3, e4, e5, hg, hm, ha1, hb1, pa, pb, s6, hat, c0, c1, c2, hset, hwb]
            obtain ⟨f1, f2⟩ := fin false (by rw [c0, hv, c1, c2]; rfl)
            exact ⟨_, f1, b + 1, rfl, by omega, rfl, by rw [f2], by first | omega | (dsimp only; omega)⟩
          simp (disch := omega) only [wp, Nat.reduceAdd, Nat.reduceMul, Nat.reduceSub, gl, ml, e1, e3, e4, e5, hg, hm, ha1, hb1, pa, pb, s6, hat, c0, c1, c2, hset, hwb]
          obtain ⟨f1, f2⟩ := fin (lc == lc') (by rw [c0, hv, c1, c2]; simp)
          exact ⟨_, f1, b + 1, rfl, by omega, rfl, by rw [f2], by first | omega | (dsimp only; omega)⟩
        · obtain rfl : b = X.evs.length := by omega
          have hb1 : ¬ ((X.evs.length : Int) < X.evs.length) := by omega
          simp (disch := omega) only [wp, Nat.reduceAdd, Nat.reduceMul, Nat.reduceSub, gl, ml, e1, e3, e4, e5, hg, hm, hb1, hwa]
          exact ⟨X.evs.length - (a + 1), by omega, a + 1, rfl, by omega, rfl, by rw [stK_row], by first | omega | (dsimp only; omega)⟩
    · obtain rfl : a = X.evs.length := by omega
      have ha1 : ¬ ((X.evs.length : Int) < X.evs.length) := by omega
      simp (disch := omega) only [wp, Nat.reduceAdd, Nat.reduceMul, Nat.reduceSub, gl, ml, e1, e3, e4, hg, hm, ha1, hloc]
      exact ⟨_, rfl, hm⟩
def thV (X : Gr) (one : Bool) : Mx := fun i j => (thI X i == thI X j) == one
def prtM (X : Gr) (one : Bool) (A : Mx) : Mx := opM (fun x y => x && y) A (thV X one) X.evs.length
set_option maxRecDepth 100000 in
set_option maxHeartbeats 4000000 in
theorem sp_mpart (h85 : F 85 = some A_xref09_part) (h27 : F 27 = some A_xref01_New) {X : Gr} (hn : X.evs.length ≤ 40) (A : Mx) (one : Bool) : pureS F 85 [.agg (grC X), .ptr (matC X.evs.length A), .b one] = some (.ptr (matC X.evs.length (prtM X one A))) := by
  refine pure_of_thaw h85 (matC_flat _ _) ?_
  have fin0 : prtM X one A = stM (fun x y => x && y) A (thV X one) X.evs.length X.evs.length 0 := rfl
  simp (disch := omega) only [A_xref09_part, wp, Nat.reduceAdd, Nat.reduceMul, Nat.reduceSub, gl, ml, thaw27 h27]
  generalize hB : thV X one = B at fin0
  refine W_loop (fun q e g => ∃ a : Nat, q = X.evs.length - a ∧ a ≤ X.evs.length ∧ e 1 = .ptr (matC X.evs.length A) ∧ e 2 = .b one ∧ e 3 = .mp 0 0 ∧ e 7 = .mp 6 0 ∧ e 8 = .i .i64 a ∧ g.hp 0 = some (.cells (grC X) false) ∧ g.hp 6 = some (.cells (matC X.evs.length (stM (fun x y => x && y) A B X.evs.length a 0)) false) ∧ 6 < g.nx) X.evs.length ?_ ?_
  · refine ⟨0, rfl, Nat.zero_le _, ?_⟩
    simp (disch := omega) only [wp, Nat.reduceAdd, Nat.reduceMul, Nat.reduceSub]
    exact ⟨rfl, by rw [stM_0], by first | omega | (dsimp only; omega)⟩
  · rintro q e g ⟨a, rfl, ha, e1, e2, e3, e7, e8, hg, hm, hnx⟩
    by_cases ha' : a < X.evs.length
    · have ha1 : (a : Int) < X.evs.length := by omega
      have hwa := succ_wrap (k := a) (by omega)
      simp (disch := omega) only [wp, Nat.reduceAdd, Nat.reduceMul, Nat.reduceSub, gl, ml, e1, e2, e3, e7, e8, hg, hm, ha1]
      refine W_loop (fun q e g => ∃ b : Nat, q = X.evs.length - b ∧ b ≤ X.evs.length ∧ e 1 = .ptr (matC X.evs.length A) ∧ e 2 = .b one ∧ e 3 = .mp 0 0 ∧ e 7 = .mp 6 0 ∧ e 8 = .i .i64 a ∧ e 9 = .i .i64 b ∧ g.hp 0 = some (.cells (grC X) false) ∧ g.hp 6 = some (.cells (matC X.evs.length (stM (fun x y => x && y) A B X.evs.length a b)) false) ∧ 6 < g.nx) X.evs.length ?_ ?_
      · refine ⟨0, rfl, Nat.zero_le _, ?_⟩
        simp (disch := omega) only [wp, Nat.reduceAdd, Nat.reduceMul, Nat.reduceSub, e1, e2, e3, e7, e8]
        exact ⟨rfl, hg, hm, by first | omega | (dsimp only; omega)⟩
      · rintro q e g ⟨b, rfl, hb, e1, e2, e3, e7, e8, e9, hg, hm, hnx⟩
        by_cases hb' : b < X.evs.length
        · have hb1 : (b : Int) < X.evs.length := by omega
          have hwb := succ_wrap (k := b) (by omega)
          have tA := ev_th_at ha'
          have tB := ev_th_at hb'
          have dA : (List.drop (a * 6) (evsC X.evs)).length = X.evs.length * 6 - a * 6 := by rw [List.length_drop, evsC_len]
          have dB : (List.drop (b * 6) (evsC X.evs)).length = X.evs.length * 6 - b * 6 := by rw [List.length_drop, evsC_len]
          have hv : B a b = (((X.evs.getD a ev0).th == (X.evs.getD b ev0).th) == one) := by rw [← hB]; rfl
          have hs := stM_succ (fun x y => x && y) A B X.evs.length a b
          have hset := fun x => matC_set (n := X.evs.length) (M := stM (fun x y => x && y) A B X.evs.length a b) (a := a) (b := b) (x := x) (by omega)
          generalize (X.evs.getD a ev0).th = ta at tA hv
          generalize (X.evs.getD b ev0).th = tb at tB hv
          have fin : ∀ x, x = (A a b && B a b) → X.evs.length - (b + 1) < X.evs.length - b ∧ upd2 (stM (fun x y => x && y) A B X.evs.length a b) a b x = stM (fun x y => x && y) A B X.evs.length a (b + 1) := fun x hx => ⟨by omega, by rw [hx]; exact hs⟩
          cases c0 : A a b
          case false =>
            simp (disch := omega) only [wp, Nat.reduceAdd, Nat.reduceMul, Nat.reduceSub, gl, ml, e1, e2, e3, e7, e8, e9, hg, hm, ha1, hb1, tA, tB, dA, dB, c0, hset, hwb]
            obtain ⟨f1, f2⟩ := fin false (by rw [c0]; rfl)
            exact ⟨_, f1, b + 1, rfl, by omega, rfl, by rw [f2], by first | omega | (dsimp only; omega)⟩
          simp (disch := omega) only [wp, Nat.reduceAdd, Nat.reduceMul, Nat.reduceSub, gl, ml, e1, e2, e3, e7, e8, e9, hg, hm, ha1, hb1, tA, tB, dA, dB, c0, hset, hwb]
          obtain ⟨f1, f2⟩ := fin ((ta == tb) == one) (by rw [c0, hv]; rfl)
          exact ⟨_, f1, b + 1, rfl, by omega, rfl, by rw [f2], by first | omega | (dsimp only; omega)⟩
        · obtain rfl : b = X.evs.length := by omega
          have hb1 : ¬ ((X.evs.length : Int) < X.evs.length) := by omega
          simp (disch := omega) only [wp, Nat.reduceAdd, Nat.reduceMul, Nat.reduceSub, gl, ml, e1, e2, e3, e7, e8, e9, hg, hm, hb1, hwa]
          exact ⟨X.evs.length - (a + 1), by omega, a + 1, rfl, by omega, rfl, by rw [stM_row], by first | omega | (dsimp only; omega)⟩
    · obtain rfl : a = X.evs.length := by omega
      have ha1 : ¬ ((X.evs.length : Int) < X.evs.length) := by omega
      simp (disch := omega) only [wp, Nat.reduceAdd, Nat.reduceMul, Nat.reduceSub, gl, ml, e1, e2, e3, e7, e8, hg, hm, ha1, fin0]
      exact ⟨_, rfl, hm⟩
set_option maxRecDepth 100000 in
theorem sp_mInner (h74 : F 74 = some A_xref09_Inner) (h85 : F 85 = some A_xref09_part) (h27 : F 27 = some A_xref01_New) {X : Gr} (hn : X.evs.length ≤ 40) (A : Mx) : pureS F 74 [.agg (grC X), .ptr (matC X.evs.length A)] = some (.ptr (matC X.evs.length (prtM X true A))) := by
  refine pure_of h74 ?_
  simp (disch := omega) only [A_xref09_Inner, wp, Nat.reduceAdd, Nat.reduceMul, Nat.reduceSub, gl, sp_mpart h85 h27 hn]
set_option maxRecDepth 100000 in
theorem sp_mOuter (h75 : F 75 = some A_xref09_Outer) (h85 : F 85 = some A_xref09_part) (h27 : F 27 = some A_xref01_New) {X : Gr} (hn : X.evs.length ≤ 40) (A : Mx) : pureS F 75 [.agg (grC X), .ptr (matC X.evs.length A)] = some (.ptr (matC X.evs.length (prtM X false A))) := by
  refine pure_of h75 ?_
  simp (disch := omega) only [A_xref09_Outer, wp, Nat.reduceAdd, Nat.reduceMul, Nat.reduceSub, gl, sp_mpart h85 h27 hn]
end Go.Ab
end
section
set_option linter.unusedVariables false
set_option linter.unusedSimpArgs false
namespace Go.Ab
variable {F : Funs}
def EvOk (locs i : Int) (p e : Ev) : Prop :=
  (i < locs → e.th = 0 ∧ e.kd = 2 ∧ e.md = 0 ∧ e.lc = i ∧ e.vl = 0 ∧ e.ex = false) ∧
  (¬ i < locs → 1 ≤ e.th ∧ e.th ≤ 4 ∧ p.th ≤ e.th ∧ ((e.kd = 1 ∧ 0 ≤ e.lc ∧ e.lc < locs ∧ (e.md = 0 ∨ e.md = 1)) ∨ (e.kd = 2 ∧ 0 ≤ e.lc ∧ e.lc < locs ∧ (e.md = 0 ∨ e.md = 2)) ∨ (e.kd = 3 ∧ 1 ≤ e.md ∧ e.md ≤ 4 ∧ e.lc = 0 ∧ e.vl = 0 ∧ e.ex = false)))
end Go.Ab
end
section
set_option linter.unusedVariables false
set_option linter.unusedSimpArgs false
namespace Go.Ab
variable {F : Funs}
def RfOk (X : Gr) (i : Nat) : Prop := ((X.evs.getD i ev0).kd ≠ 1 → X.rf.getD i 0 = -1) ∧
  ((X.evs.getD i ev0).kd = 1 → 0 ≤ X.rf.getD i 0 ∧ X.rf.getD i 0 < X.evs.length ∧ (X.evs.getD (X.rf.getD i 0).toNat ev0).kd = 2 ∧ (X.evs.getD (X.rf.getD i 0).toNat ev0).lc = (X.evs.getD i ev0).lc ∧ (X.evs.getD (X.rf.getD i 0).toNat ev0).vl = (X.evs.getD i ev0).vl)
def isWr (loc : Int) (e : Ev) : Bool := e.kd == 2 && e.lc == loc
def cntW (X : Gr) (loc : Int) (k : Nat) : Nat := ((X.evs.take k).filter (isWr loc)).length
structure CoOk (X : Gr) (loc : Nat) : Prop where
  wr : ∀ i, i < (X.co.getD loc []).length → 0 ≤ (X.co.getD loc []).getD i 0 ∧ (X.co.getD loc []).getD i 0 < X.evs.length ∧ (X.evs.getD ((X.co.getD loc []).getD i 0).toNat ev0).kd = 2 ∧ (X.evs.getD ((X.co.getD loc []).getD i 0).toNat ev0).lc = loc
  ne : ∀ i, i < (X.co.getD loc []).length → ∀ k, k < i → (X.co.getD loc []).getD k 0 ≠ (X.co.getD loc []).getD i 0
  len : (X.co.getD loc []).length = cntW X loc X.evs.length
  pos : 0 < (X.co.getD loc []).length
  hd : (X.co.getD loc []).getD 0 0 = loc
end Go.Ab
end
section
set_option linter.unusedVariables false
set_option linter.unusedSimpArgs false
namespace Go.Ab
variable {F : Funs}
def lessP (p q : Int × Int) : Prop := p.1 < q.1 ∨ (p.1 = q.1 ∧ p.2 < q.2)
def Rising (l : List (Int × Int)) : Prop := ∀ i, i + 1 < l.length → lessP (l.getD i (0, 0)) (l.getD (i + 1) (0, 0))
def DepOk (X : Gr) (p : Int × Int) : Prop := 0 ≤ p.1 ∧ p.1 < p.2 ∧ p.2 < X.evs.length ∧ (X.evs.getD p.1.toNat ev0).kd = 1 ∧ (X.evs.getD p.1.toNat ev0).th = (X.evs.getD p.2.toNat ev0).th
def DepsOk (X : Gr) (l : List (Int × Int)) : Prop := (∀ i, i < l.length → DepOk X (l.getD i (0, 0))) ∧ Rising l
end Go.Ab
end
section
set_option linter.unusedVariables false
set_option linter.unusedSimpArgs false
namespace Go.Ab
variable {F : Funs}
def inB (i : Nat) (p : Int × Int) : Bool := p.1 == (i : Int) || p.2 == (i : Int)
def inC (l : List (Int × Int)) (i : Nat) : Nat := (l.filter (inB i)).length
def PairOk (X : Gr) (p : Int × Int) : Prop := 0 ≤ p.1 ∧ p.1 < X.evs.length - 1 ∧ p.2 = p.1 + 1 ∧ (X.evs.getD p.1.toNat ev0).th = (X.evs.getD p.2.toNat ev0).th ∧ (X.evs.getD p.1.toNat ev0).kd = 1 ∧ (X.evs.getD p.2.toNat ev0).kd = 2 ∧ (X.evs.getD p.1.toNat ev0).lc = (X.evs.getD p.2.toNat ev0).lc ∧ (X.evs.getD p.1.toNat ev0).ex = true ∧ (X.evs.getD p.2.toNat ev0).ex = true
structure RmwOk (X : Gr) : Prop where
  pairs : ∀ j, j < X.rmw.length → PairOk X (X.rmw.getD j (0, 0))
  once : ∀ i, i < X.evs.length → inC X.rmw i ≤ 1 ∧ (X.evs.getD i ev0).ex = ((inC X.rmw i : Int) == 1)
  rise : Rising X.rmw
end Go.Ab
end
section
set_option linter.unusedVariables false
set_option linter.unusedSimpArgs false
namespace Go.Ab
variable {F : Funs}
structure GraphOk (X : Gr) : Prop where
  locs1 : 1 ≤ X.locs
  locs4 : X.locs ≤ 4
  nl : X.locs ≤ X.evs.length
  n40 : X.evs.length ≤ 40
  rfl : X.rf.length = X.evs.length
  col : (X.co.length : Int) = X.locs
  ev : ∀ i, i < X.evs.length → EvOk X.locs i (X.evs.getD (i - 1) ev0) (X.evs.getD i ev0)
  rf : ∀ i, i < X.evs.length → RfOk X i
  co : ∀ i, i < X.co.length → CoOk X i
  rmw : RmwOk X
  data : DepsOk X X.data
  ctrl : DepsOk X X.ctrl
  ctrli : DepsOk X X.ctrli
end Go.Ab
end
section
set_option linter.unusedVariables false
set_option linter.unusedSimpArgs false
namespace Go.Ab
variable {F : Funs}
theorem GraphOk.nOf {X : Gr} (h : GraphOk X) : nOf X = X.evs.length := by
  have := h.n40
  unfold Go.Ab.nOf clamp; omega
theorem hb_newM {n : Nat} (hn : n ≤ 40) (L : List (Int × Int)) {a b : Nat} (ha : a < n) (hb' : b < n) : hb (newR n L) a b = anyM L a b := by
  rw [hb_new hn, decide_eq_true ha, decide_eq_true hb', Bool.true_and, Bool.true_and]; rfl
section
variable {X : Gr} (h : GraphOk X)
include h
theorem GraphOk.rfr (i : Nat) (hi : i < X.evs.length) : (0 ≤ X.rf.getD i 0 ↔ (X.evs.getD i ev0).kd = 1) ∧ X.rf.getD i 0 < X.evs.length := by
  obtain ⟨h1, h2⟩ := h.rf i hi
  by_cases hk : (X.evs.getD i ev0).kd = 1
  · obtain ⟨h3, h4, _⟩ := h2 hk
    exact ⟨⟨fun _ => hk, fun _ => h3⟩, h4⟩
  · have := h1 hk
    exact ⟨⟨fun h => by omega, fun h => absurd h hk⟩, by omega⟩
theorem GraphOk.cor (j : Nat) (hj : j < X.co.length) (i : Nat) (hi : i < (X.co.getD j []).length) : 0 ≤ (X.co.getD j []).getD i 0 ∧ (X.co.getD j []).getD i 0 < X.evs.length ∧ (X.evs.getD ((X.co.getD j []).getD i 0).toNat ev0).kd = 2 := by
  obtain ⟨h1, h2, h3, _⟩ := (h.co j hj).wr i hi
  exact ⟨h1, h2, h3⟩
end
end Go.Ab
end
section
set_option linter.unusedVariables false
set_option linter.unusedSimpArgs false
namespace Go.Ab
variable {F : Funs}
def setL (X : Gr) (p : Ev → Bool) (k : Nat) : List (Int × Int) := (List.range k).flatMap fun (i : Nat) => if p (X.evs.getD i ev0) then [((i : Int), (i : Int))] else []
theorem setL_succ (X p k) : setL X p (k + 1) = setL X p k ++ (if p (X.evs.getD k ev0) then [((k : Int), (k : Int))] else []) := by simp [setL, List.range_succ]
theorem setL_len (X p k) : (setL X p k).length ≤ k := by
  induction k with
  | zero => simp [setL]
  | succ k ih => rw [setL_succ, List.length_append]; split <;> simp <;> omega
theorem mem_setL {X : Gr} {p : Ev → Bool} {k a b : Nat} : ((a : Int), (b : Int)) ∈ setL X p k ↔ a = b ∧ a < k ∧ p (X.evs.getD a ev0) = true := by
  unfold setL
  simp only [List.mem_flatMap, List.mem_range]
  constructor
  · rintro ⟨i, hi, h⟩
    by_cases hp : p (X.evs.getD i ev0) = true
    · rw [if_pos hp, List.mem_singleton, Prod.mk.injEq] at h
      have e1 : a = i := by omega
      have e2 : b = i := by omega
      subst e1 e2
      exact ⟨rfl, hi, hp⟩
    · rw [if_neg hp] at h; cases h
  · rintro ⟨rfl, hk, hp⟩
    exact ⟨a, hk, by rw [if_pos hp]; exact List.mem_singleton.2 rfl⟩
def setR (X : Gr) (p : Ev → Bool) : Rw := newR (nOf X) (setL X p X.evs.length)
def kindK (X : Gr) (q : Ev → Bool) (k : Nat) : Mx := fun a b => decide (a = b) && (decide (a < k) && q (X.evs.getD a ev0))
theorem kindK_succ (X q k) : upd2 (kindK X q k) k k (q (X.evs.getD k ev0)) = kindK X q (k + 1) := by
  funext i j
  unfold upd2 kindK
  by_cases h : i = k ∧ j = k
  · obtain ⟨rfl, rfl⟩ := h
    rw [if_pos ⟨rfl, rfl⟩]; simp
  · rw [if_neg h]
    by_cases hij : i = j
    · have : decide (i < k) = decide (i < k + 1) := by rw [decide_eq_decide]; omega
      rw [this]
    · rw [decide_eq_false hij]; rfl
theorem kindK_0 (X q) : kindK X q 0 = fun _ _ => false := by funext i j; simp [kindK]
section
variable {X : Gr} (h : GraphOk X)
include h
theorem EqN.set {p q : Ev → Bool} (hq : ∀ i, i < X.evs.length → p (X.evs.getD i ev0) = q (X.evs.getD i ev0)) : EqN X.evs.length (kindK X q X.evs.length) (setR X p) := by
  unfold setR
  rw [h.nOf]
  refine ⟨wf_new h.n40 _, fun a b ha hb' => ?_⟩
  rw [hb_newM h.n40 _ ha hb', Bool.eq_iff_iff, anyM_mem, mem_setL]
  unfold kindK
  simp only [Bool.and_eq_true, decide_eq_true_eq, hq a ha]
end
end Go.Ab
end
section
set_option linter.unusedVariables false
set_option linter.unusedSimpArgs false
namespace Go.Ab
variable {F : Funs}
theorem o_boxI {c : CS} {al : Nat → Bool} {lo id : Nat} {e : Env} {g : G} (x) : opE c al lo id (.boxI x) e g = vBoxI (x.ev e) g := rfl
noncomputable def bxiD (x : Bool) (cs : Option (List AV)) (g : G) : Option (AV × G) := if x then vMapL .ptr g cs else none
theorem vBoxI_S (v g) : vBoxI v g = bxiD ((cellsOf v).all one) (frzL (fun _ => none) depth (cellsOf v)) g := rfl
theorem bxiD_ok (cs g) : bxiD true cs g = vMapL .ptr g cs := rfl
theorem frzL_gr (hp) (X : Gr) : frzL hp depth (grC X) = some (grC X) := by
  show frzL hp (8 + 1) _ = _
  simp only [grC, frzL, frz]
set_option maxRecDepth 100000 in
set_option maxHeartbeats 4000000 in
theorem sp_setE (h166 : F 166 = some A_graph_Set) (h81 : F 81 = some A_graph_Of) (pr : Pk_rel F) {X : Gr} (hX : X.evs.length ≤ 1000) {fid : Nat} {caps : List AV} {p : Ev → Bool} (hp : ∀ e, pureS F fid (.agg (evC e) :: caps) = some (.b (p e)))
    (hc : ∀ hp, frzL hp depth caps = some caps) (hv : ∀ hp, caps.flatMap (vis hp depth) = []) : pureS F 166 [.agg (grC X), .fn fid [] caps] = some (.ptr (relC (nOf X) (setR X p))) := by
  refine pure_of h166 ?_
  simp (disch := omega) only [A_graph_Set, wp, Nat.reduceAdd, Nat.reduceMul, Nat.reduceSub, gl]
  refine W_loop (fun q e g => ∃ k t, q = X.evs.length - k ∧ k ≤ X.evs.length ∧ e 2 = .mp 0 0 ∧ e 5 = .sl (pairsC (setL X p k)) (setL X p k).length t ∧ e 6 = .mp 5 0 ∧ e 12 = .sl (evsC X.evs) X.evs.length .non ∧ e 13 = .i .i64 X.evs.length ∧ e 14 = .i .i64 k ∧ Live g 2 t ∧ g.hp 0 = some (.cells (grC X) false) ∧ g.hp 5 = some (.cells [.fn fid [] caps] false) ∧ 5 < g.nx) X.evs.length ?_ ?_
  · refine ⟨0, .rig, rfl, Nat.zero_le _, ?_⟩
    simp (disch := omega) only [wp, Nat.reduceAdd, Nat.reduceMul, Nat.reduceSub]
    exact ⟨by rfl, rfl, .inl rfl, by first | omega | (dsimp only; omega)⟩
  · rintro q e g ⟨k, t, rfl, hk, e2, e5, e6, e12, e13, e14, L, hg, hf, hnx⟩
    by_cases hk' : k < X.evs.length
    · have hk1 : (k : Int) < X.evs.length := by omega
      have hwk := succ_wrap (k := k) (by omega)
      have hev := ev_part hk'
      have hs := setL_succ X p k
      have hl := setL_len X p k
      generalize X.evs.getD k ev0 = ev at hev hs
      have hpe := hp ev
      generalize setL X p k = B at e5 hs hl
      cases hb : p ev with
      | true =>
        rw [hb] at hpe
        rw [hb, if_pos rfl] at hs
        rcases L with rfl | ⟨τ, rfl, hτ, hlt⟩
        · simp (disch := omega) only [wp, Nat.reduceAdd, Nat.reduceMul, Nat.reduceSub, gl, e2, e5, e6, e12, e13, e14, hg, hf, hk1, hev, hc, hv, hpe, pairsC_len, hwk]
          refine ⟨X.evs.length - (k + 1), by omega, k + 1, ?_⟩
          rw [hs, pairsC_app, pairsC_one, List.length_append]
          exact ⟨_, rfl, by omega, rfl, rfl, .inr ⟨_, rfl, upd_same _ _ _, by first | omega | (dsimp only; omega)⟩, by first | omega | (dsimp only; omega)⟩
        · have n0 : τ ≠ 0 := fun h => by rw [h, hg] at hτ; cases hτ
          have n5 : τ ≠ 5 := fun h => by rw [h, hf] at hτ; cases hτ
          simp (disch := omega) only [wp, Nat.reduceAdd, Nat.reduceMul, Nat.reduceSub, gl, e2, e5, e6, e12, e13, e14, hg, hf, hk1, hev, hc, hv, hpe, pairsC_len, hwk, hτ]
          refine ⟨X.evs.length - (k + 1), by omega, k + 1, ?_⟩
          rw [hs, pairsC_app, pairsC_one, List.length_append]
          exact ⟨_, rfl, by omega, rfl, rfl, .inr ⟨_, rfl, upd_same _ _ _, by first | omega | (dsimp only; omega)⟩, by first | omega | (dsimp only; omega)⟩
      | false =>
        rw [hb] at hpe
        rw [hb, if_neg (by simp), List.append_nil] at hs
        simp (disch := omega) only [wp, Nat.reduceAdd, Nat.reduceMul, Nat.reduceSub, gl, e2, e5, e6, e12, e13, e14, hg, hf, hk1, hev, hc, hv, hpe, hwk]
        refine ⟨X.evs.length - (k + 1), by omega, k + 1, t, rfl, by omega, by rw [hs], rfl, ?_, by first | omega | (dsimp only; omega)⟩
        rcases L with rfl | ⟨τ, rfl, hτ, hlt⟩
        · exact .inl rfl
        · exact .inr ⟨τ, rfl, by simp (disch := omega) only [upd_ne]; exact hτ, by first | omega | (dsimp only; omega)⟩
    · obtain rfl : k = X.evs.length := by omega
      have hk1 : ¬ ((X.evs.length : Int) < X.evs.length) := by omega
      have hl := setL_len X p X.evs.length
      have hof := sp_of h81 pr X (setL X p X.evs.length) .non (by omega)
      simp (disch := omega) only [wp, Nat.reduceAdd, Nat.reduceMul, Nat.reduceSub, gl, e2, e5, e6, e12, e13, e14, hg, hf, hk1, hof]
      rfl
def setP (k : Int) (ms : List Int) (e : Ev) : Bool := e.kd == k && (decide (ms = []) || ms.any fun m => e.md == m)
set_option maxRecDepth 100000 in
set_option maxHeartbeats 4000000 in
theorem sp_set1 (h229 : F 229 = some A_sync_set_1) (k : Int) (ms : List Int) (hm : ms.length ≤ 1000) (ev : Ev) : pureS F 229 [.agg (evC ev), .ptr [.sl (intsC ms) ms.length .non], .ptr [.i .i64 k]] = some (.b (setP k ms ev)) := by
  refine pure_of h229 ?_
  have h0 : ((ms.length : Int) == 0) = decide (ms = []) := by
    cases ms with
    | nil => rfl
    | cons a l => simp; omega
  simp (disch := omega) only [A_sync_set_1, wp, Nat.reduceAdd, Nat.reduceMul, Nat.reduceSub, gl, h0]
  refine W_loop (fun q e g => ∃ j, q = ms.length - j ∧ j ≤ ms.length ∧ e 2 = .ptr [.i .i64 k] ∧ e 3 = .mp 0 0 ∧ e 5 = .b (decide (ms = []) || (ms.take j).any fun m => ev.md == m) ∧ e 11 = .sl (intsC ms) ms.length .non ∧ e 12 = .i .i64 ms.length ∧ e 13 = .i .i64 j ∧ g.hp 0 = some (.cells (evC ev) false) ∧ 0 < g.nx) ms.length ?_ ?_
  · refine ⟨0, rfl, Nat.zero_le _, ?_⟩
    simp (disch := omega) only [wp, Nat.reduceAdd, Nat.reduceMul, Nat.reduceSub]
    exact ⟨by simp, rfl, by first | omega | (dsimp only; omega)⟩
  · rintro q e g ⟨j, rfl, hj, e2, e3, e5, e11, e12, e13, hg, hnx⟩
    by_cases hj' : j < ms.length
    · have hj1 : (j : Int) < ms.length := by omega
      have hwj := succ_wrap (k := j) (by omega)
      have hip := ints_part hj'
      have hs : (ms.take (j + 1)).any (fun m => ev.md == m) = ((ms.take j).any (fun m => ev.md == m) || ev.md == ms.getD j 0) := by
        rw [List.take_add_one, List.getElem?_eq_getElem hj', List.any_append, List.getD_eq_getElem?_getD, List.getElem?_eq_getElem hj']
        simp
      generalize ms.getD j 0 = m at hip hs
      cases hb : (decide (ms = []) || (ms.take j).any fun m => ev.md == m) with
      | true =>
        rw [hb] at e5
        simp (disch := omega) only [wp, Nat.reduceAdd, Nat.reduceMul, Nat.reduceSub, gl, e2, e3, e5, e11, e12, e13, hg, hj1, hip, hwj]
        exact ⟨ms.length - (j + 1), by omega, j + 1, rfl, by omega, by rw [hs, ← Bool.or_assoc, hb]; rfl, rfl, by first | omega | (dsimp only; omega)⟩
      | false =>
        rw [hb] at e5
        simp (disch := omega) only [wp, Nat.reduceAdd, Nat.reduceMul, Nat.reduceSub, gl, e2, e3, e5, e11, e12, e13, hg, hj1, hip, hwj]
        exact ⟨ms.length - (j + 1), by omega, j + 1, rfl, by omega, by rw [hs, ← Bool.or_assoc, hb]; rfl, rfl, by first | omega | (dsimp only; omega)⟩
    · obtain rfl : j = ms.length := by omega
      have hj1 : ¬ ((ms.length : Int) < ms.length) := by omega
      rw [List.take_length] at e5
      unfold setP
      cases hk : (ev.kd == k) with
      | true => simp (disch := omega) only [wp, Nat.reduceAdd, Nat.reduceMul, Nat.reduceSub, gl, e2, e3, e5, e11, e12, e13, hg, hj1, hk]
      | false => simp (disch := omega) only [wp, Nat.reduceAdd, Nat.reduceMul, Nat.reduceSub, gl, e2, e3, e5, e11, e12, e13, hg, hj1, hk]
set_option maxRecDepth 100000 in
theorem sp_setS (h178 : F 178 = some A_sync_set) (h229 : F 229 = some A_sync_set_1) (h166 : F 166 = some A_graph_Set) (h81 : F 81 = some A_graph_Of) (pr : Pk_rel F) {X : Gr} (hX : X.evs.length ≤ 1000) (k : Int) (ms : List Int) (hm : ms.length ≤ 1000) (t : Tok) : pureS F 178 [.agg (grC X), .i .i64 k, .sl (intsC ms) ms.length t] = some (.ptr (relC (nOf X) (setR X (setP k ms)))) := by
  refine pure_of h178 ?_
  have hc : ∀ hp, frzL hp depth [.ptr [.sl (intsC ms) ms.length .non], .ptr [.i .i64 k]] = some [.ptr [.sl (intsC ms) ms.length .non], .ptr [.i .i64 k]] := fun hp => by simp only [frzL_cons, frzL_nil, frz_d_ptr, consO_ok]
  have hv : ∀ hp, [AV.ptr [.sl (intsC ms) ms.length .non], .ptr [.i .i64 k]].flatMap (vis hp depth) = [] := fun hp => by simp only [List.flatMap_cons, List.flatMap_nil, vis_ptr, List.append_nil]
  have hset := sp_setE h166 h81 pr hX (fid := 229) (p := setP k ms) (fun e => sp_set1 h229 k ms hm e) hc hv
  have hfn : ∀ hp, frz hp depth (.fn 229 [] [.ptr [.sl (intsC ms) ms.length .non], .ptr [.i .i64 k]]) = some (.fn 229 [] [.ptr [.sl (intsC ms) ms.length .non], .ptr [.i .i64 k]]) := fun hp => by
    show frz hp (8 + 1) _ = _
    simp only [frz, frzL]
  have hvn : ∀ hp, vis hp depth (.fn 229 [] [.ptr [.sl (intsC ms) ms.length .non], .ptr [.i .i64 k]]) = [] := fun hp => by
    show vis hp (8 + 1) _ = _
    simp only [vis, List.flatMap_cons, List.flatMap_nil, List.append_nil]
  simp (disch := omega) only [A_sync_set, wp, Nat.reduceAdd, Nat.reduceMul, Nat.reduceSub, gl, o_boxI, vBoxI_S, bxiD_ok, frzL_gr, vMapL_some, hfn, hvn, hset]
def relsC (n : Nat) (l : List Rw) : List AV := l.map fun R => .ptr (relC n R)
def thenL (n : Nat) (R : Rw) (l : List Rw) : Rw := l.foldl (fun R S => thenR n R S) R
theorem rels_part {n : Nat} {l : List Rw} {k : Nat} (h : k < l.length) : part ((relsC n l).drop (k * 1)) 0 none = some (.ptr (relC n (l.getD k fun _ => 0))) := by
  simp only [part, relsC, List.getElem?_drop, Nat.mul_one, Nat.add_zero, List.getElem?_map, List.getElem?_eq_getElem h, Option.map_some, List.getD_eq_getElem?_getD, Option.getD_some]
set_option maxRecDepth 100000 in
set_option maxHeartbeats 4000000 in
theorem sp_thenS (h177 : F 177 = some A_sync_then) (pr : Pk_rel F) {n : Nat} (hn : n ≤ 40) (R : Rw) (l : List Rw) (hl : l.length ≤ 1000) (t : Tok) : pureS F 177 [.ptr (relC n R), .sl (relsC n l) l.length t] = some (.ptr (relC n (thenL n R l))) := by
  refine pure_of h177 ?_
  simp (disch := omega) only [A_sync_then, wp, Nat.reduceAdd, Nat.reduceMul, Nat.reduceSub, gl]
  refine W_loop (fun q e g => ∃ k, q = l.length - k ∧ k ≤ l.length ∧ e 0 = .ptr (relC n (thenL n R (l.take k))) ∧ e 7 = .sl (relsC n l) l.length t ∧ e 8 = .i .i64 l.length ∧ e 9 = .i .i64 k) l.length ?_ ?_
  · refine ⟨0, rfl, Nat.zero_le _, ?_⟩
    simp (disch := omega) only [wp, Nat.reduceAdd, Nat.reduceMul, Nat.reduceSub]
    exact ⟨by rfl, rfl⟩
  · rintro q e g ⟨k, rfl, hk, e0, e7, e8, e9⟩
    by_cases hk' : k < l.length
    · have hk1 : (k : Int) < l.length := by omega
      have hwk := succ_wrap (k := k) (by omega)
      have hp := rels_part (n := n) hk'
      have hs : thenL n R (l.take (k + 1)) = thenR n (thenL n R (l.take k)) (l.getD k fun _ => 0) := by
        unfold thenL
        rw [List.take_add_one, List.foldl_append, List.getElem?_eq_getElem hk', List.getD_eq_getElem?_getD, List.getElem?_eq_getElem hk']
        rfl
      generalize thenL n R (l.take k) = A at e0 hs
      generalize (l.getD k fun _ => 0) = B at hp hs
      simp (disch := omega) only [wp, Nat.reduceAdd, Nat.reduceMul, Nat.reduceSub, gl, e0, e7, e8, e9, hk1, hp, sp_then pr hn hn, Nat.max_self, hwk]
      exact ⟨l.length - (k + 1), by omega, k + 1, rfl, by omega, by rw [hs], rfl⟩
    · obtain rfl : k = l.length := by omega
      have hk1 : ¬ ((l.length : Int) < l.length) := by omega
      rw [List.take_length] at e0
      simp (disch := omega) only [wp, Nat.reduceAdd, Nat.reduceMul, Nat.reduceSub, gl, e0, e7, e8, e9, hk1]
end Go.Ab
end
