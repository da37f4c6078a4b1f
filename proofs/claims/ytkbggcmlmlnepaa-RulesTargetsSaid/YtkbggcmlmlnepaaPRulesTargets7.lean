/- What RulesTargets rests on, part 7: lemmas, no claim of its own. -/
import Derived.Test.YtkbggcmlmlnepaaPRulesTargets6
section
set_option linter.unusedVariables false
set_option linter.unusedSimpArgs false
set_option maxRecDepth 100000
namespace Go.Proofs.Ytkbggcmlmlnepaa
open Go.Ab
theorem rt_5_0 (a b c : Int) (hk : place a 6 = 3) (hj : place b 6 = 0) : pureS funs 274 [.i .i64 a, .i .i64 b, .i .i64 c] = some (.b true) := by
  refine pure_of (fn := A_xlaw24_RulesTargets) rfl ?_
  have hp1 := sp_place (F := funs) rfl (v := a) (n := 6) (by omega) (by omega)
  have hp2 := sp_place (F := funs) rfl (v := b) (n := 6) (by omega) (by omega)
  have hp3 := sp_place (F := funs) rfl (v := c) (n := 4) (by omega) (by omega)
  obtain ⟨r0, r1⟩ := place_lt (v := c) (n := 4) (by omega)
  rw [hk] at hp1
  rw [hj] at hp2
  generalize place c 4 = p at hp3 r0 r1
  rw [rt_cut]
  generalize hr : ACode.seq (sL rt3) (.seq (sL (sR rt3)) (.seq (sL (sR (sR rt3))) (.seq rtI rtRest))) = rest
  simp (disch := omega) only [A_xlaw24_RulesTargets, sL, sR, wp, Nat.reduceAdd, Nat.reduceMul, Nat.reduceSub, hp1, hp2, wrap_id, Int.reduceAdd]
  subst hr
  rw [W_assoc, W_assoc]
  have hp : p = 0 ∨ p = 1 ∨ p = 2 ∨ p = 3 := by omega
  rcases hp with rfl | rfl | rfl | rfl
  · refine W_mid ruO_ok 1000 (rtChk 5 0 c _) ?_ (fun t g' h => rt_tail rfl h (by omega) (by omega) (by omega) (by omega) hp3)
    kernel_rfl
  · refine W_mid ruO_ok 1000 (rtChk 5 1 c _) ?_ (fun t g' h => rt_tail rfl h (by omega) (by omega) (by omega) (by omega) hp3)
    kernel_rfl
  · refine W_mid ruO_ok 1000 (rtChk 5 2 c _) ?_ (fun t g' h => rt_tail rfl h (by omega) (by omega) (by omega) (by omega) hp3)
    kernel_rfl
  · refine W_mid ruO_ok 1000 (rtChk 5 3 c _) ?_ (fun t g' h => rt_tail rfl h (by omega) (by omega) (by omega) (by omega) hp3)
    kernel_rfl
theorem rt_5_1 (a b c : Int) (hk : place a 6 = 3) (hj : place b 6 = 1) : pureS funs 274 [.i .i64 a, .i .i64 b, .i .i64 c] = some (.b true) := by
  refine pure_of (fn := A_xlaw24_RulesTargets) rfl ?_
  have hp1 := sp_place (F := funs) rfl (v := a) (n := 6) (by omega) (by omega)
  have hp2 := sp_place (F := funs) rfl (v := b) (n := 6) (by omega) (by omega)
  have hp3 := sp_place (F := funs) rfl (v := c) (n := 4) (by omega) (by omega)
  obtain ⟨r0, r1⟩ := place_lt (v := c) (n := 4) (by omega)
  rw [hk] at hp1
  rw [hj] at hp2
  generalize place c 4 = p at hp3 r0 r1
  rw [rt_cut]
  generalize hr : ACode.seq (sL rt3) (.seq (sL (sR rt3)) (.seq (sL (sR (sR rt3))) (.seq rtI rtRest))) = rest
  simp (disch := omega) only [A_xlaw24_RulesTargets, sL, sR, wp, Nat.reduceAdd, Nat.reduceMul, Nat.reduceSub, hp1, hp2, wrap_id, Int.reduceAdd]
  subst hr
  rw [W_assoc, W_assoc]
  have hp : p = 0 ∨ p = 1 ∨ p = 2 ∨ p = 3 := by omega
  rcases hp with rfl | rfl | rfl | rfl
  · refine W_mid ruO_ok 1000 (rtChk 5 0 c _) ?_ (fun t g' h => rt_tail rfl h (by omega) (by omega) (by omega) (by omega) hp3)
    kernel_rfl
  · refine W_mid ruO_ok 1000 (rtChk 5 1 c _) ?_ (fun t g' h => rt_tail rfl h (by omega) (by omega) (by omega) (by omega) hp3)
    kernel_rfl
  · refine W_mid ruO_ok 1000 (rtChk 5 2 c _) ?_ (fun t g' h => rt_tail rfl h (by omega) (by omega) (by omega) (by omega) hp3)
    kernel_rfl
  · refine W_mid ruO_ok 1000 (rtChk 5 3 c _) ?_ (fun t g' h => rt_tail rfl h (by omega) (by omega) (by omega) (by omega) hp3)
    kernel_rfl
theorem rt_5_2 (a b c : Int) (hk : place a 6 = 3) (hj : place b 6 = 2) : pureS funs 274 [.i .i64 a, .i .i64 b, .i .i64 c] = some (.b true) := by
  refine pure_of (fn := A_xlaw24_RulesTargets) rfl ?_
  have hp1 := sp_place (F := funs) rfl (v := a) (n := 6) (by omega) (by omega)
  have hp2 := sp_place (F := funs) rfl (v := b) (n := 6) (by omega) (by omega)
  have hp3 := sp_place (F := funs) rfl (v := c) (n := 4) (by omega) (by omega)
  obtain ⟨r0, r1⟩ := place_lt (v := c) (n := 4) (by omega)
  rw [hk] at hp1
  rw [hj] at hp2
  generalize place c 4 = p at hp3 r0 r1
  rw [rt_cut]
  generalize hr : ACode.seq (sL rt3) (.seq (sL (sR rt3)) (.seq (sL (sR (sR rt3))) (.seq rtI rtRest))) = rest
  simp (disch := omega) only [A_xlaw24_RulesTargets, sL, sR, wp, Nat.reduceAdd, Nat.reduceMul, Nat.reduceSub, hp1, hp2, wrap_id, Int.reduceAdd]
  subst hr
  rw [W_assoc, W_assoc]
  have hp : p = 0 ∨ p = 1 ∨ p = 2 ∨ p = 3 := by omega
  rcases hp with rfl | rfl | rfl | rfl
  · refine W_mid ruO_ok 1000 (rtChk 5 0 c _) ?_ (fun t g' h => rt_tail rfl h (by omega) (by omega) (by omega) (by omega) hp3)
    kernel_rfl
  · refine W_mid ruO_ok 1000 (rtChk 5 1 c _) ?_ (fun t g' h => rt_tail rfl h (by omega) (by omega) (by omega) (by omega) hp3)
    kernel_rfl
  · refine W_mid ruO_ok 1000 (rtChk 5 2 c _) ?_ (fun t g' h => rt_tail rfl h (by omega) (by omega) (by omega) (by omega) hp3)
    kernel_rfl
  · refine W_mid ruO_ok 1000 (rtChk 5 3 c _) ?_ (fun t g' h => rt_tail rfl h (by omega) (by omega) (by omega) (by omega) hp3)
    kernel_rfl
theorem rt_5_3 (a b c : Int) (hk : place a 6 = 3) (hj : place b 6 = 3) : pureS funs 274 [.i .i64 a, .i .i64 b, .i .i64 c] = some (.b true) := by
  refine pure_of (fn := A_xlaw24_RulesTargets) rfl ?_
  have hp1 := sp_place (F := funs) rfl (v := a) (n := 6) (by omega) (by omega)
  have hp2 := sp_place (F := funs) rfl (v := b) (n := 6) (by omega) (by omega)
  have hp3 := sp_place (F := funs) rfl (v := c) (n := 4) (by omega) (by omega)
  obtain ⟨r0, r1⟩ := place_lt (v := c) (n := 4) (by omega)
  rw [hk] at hp1
  rw [hj] at hp2
  generalize place c 4 = p at hp3 r0 r1
  rw [rt_cut]
  generalize hr : ACode.seq (sL rt3) (.seq (sL (sR rt3)) (.seq (sL (sR (sR rt3))) (.seq rtI rtRest))) = rest
  simp (disch := omega) only [A_xlaw24_RulesTargets, sL, sR, wp, Nat.reduceAdd, Nat.reduceMul, Nat.reduceSub, hp1, hp2, wrap_id, Int.reduceAdd]
  subst hr
  rw [W_assoc, W_assoc]
  have hp : p = 0 ∨ p = 1 ∨ p = 2 ∨ p = 3 := by omega
  rcases hp with rfl | rfl | rfl | rfl
  · refine W_mid ruO_ok 1000 (rtChk 5 0 c _) ?_ (fun t g' h => rt_tail rfl h (by omega) (by omega) (by omega) (by omega) hp3)
    kernel_rfl
  · refine W_mid ruO_ok 1000 (rtChk 5 1 c _) ?_ (fun t g' h => rt_tail rfl h (by omega) (by omega) (by omega) (by omega) hp3)
    kernel_rfl
  · refine W_mid ruO_ok 1000 (rtChk 5 2 c _) ?_ (fun t g' h => rt_tail rfl h (by omega) (by omega) (by omega) (by omega) hp3)
    kernel_rfl
  · refine W_mid ruO_ok 1000 (rtChk 5 3 c _) ?_ (fun t g' h => rt_tail rfl h (by omega) (by omega) (by omega) (by omega) hp3)
    kernel_rfl
theorem rt_5_4 (a b c : Int) (hk : place a 6 = 3) (hj : place b 6 = 4) : pureS funs 274 [.i .i64 a, .i .i64 b, .i .i64 c] = some (.b true) := by
  refine pure_of (fn := A_xlaw24_RulesTargets) rfl ?_
  have hp1 := sp_place (F := funs) rfl (v := a) (n := 6) (by omega) (by omega)
  have hp2 := sp_place (F := funs) rfl (v := b) (n := 6) (by omega) (by omega)
  have hp3 := sp_place (F := funs) rfl (v := c) (n := 4) (by omega) (by omega)
  obtain ⟨r0, r1⟩ := place_lt (v := c) (n := 4) (by omega)
  rw [hk] at hp1
  rw [hj] at hp2
  generalize place c 4 = p at hp3 r0 r1
  rw [rt_cut]
  generalize hr : ACode.seq (sL rt3) (.seq (sL (sR rt3)) (.seq (sL (sR (sR rt3))) (.seq rtI rtRest))) = rest
  simp (disch := omega) only [A_xlaw24_RulesTargets, sL, sR, wp, Nat.reduceAdd, Nat.reduceMul, Nat.reduceSub, hp1, hp2, wrap_id, Int.reduceAdd]
  subst hr
  rw [W_assoc, W_assoc]
  have hp : p = 0 ∨ p = 1 ∨ p = 2 ∨ p = 3 := by omega
  rcases hp with rfl | rfl | rfl | rfl
  · refine W_mid ruO_ok 1000 (rtChk 5 0 c _) ?_ (fun t g' h => rt_tail rfl h (by omega) (by omega) (by omega) (by omega) hp3)
    kernel_rfl
  · refine W_mid ruO_ok 1000 (rtChk 5 1 c _) ?_ (fun t g' h => rt_tail rfl h (by omega) (by omega) (by omega) (by omega) hp3)
    kernel_rfl
  · refine W_mid ruO_ok 1000 (rtChk 5 2 c _) ?_ (fun t g' h => rt_tail rfl h (by omega) (by omega) (by omega) (by omega) hp3)
    kernel_rfl
  · refine W_mid ruO_ok 1000 (rtChk 5 3 c _) ?_ (fun t g' h => rt_tail rfl h (by omega) (by omega) (by omega) (by omega) hp3)
    kernel_rfl
theorem rt_5_5 (a b c : Int) (hk : place a 6 = 3) (hj : place b 6 = 5) : pureS funs 274 [.i .i64 a, .i .i64 b, .i .i64 c] = some (.b true) := by
  refine pure_of (fn := A_xlaw24_RulesTargets) rfl ?_
  have hp1 := sp_place (F := funs) rfl (v := a) (n := 6) (by omega) (by omega)
  have hp2 := sp_place (F := funs) rfl (v := b) (n := 6) (by omega) (by omega)
  have hp3 := sp_place (F := funs) rfl (v := c) (n := 4) (by omega) (by omega)
  obtain ⟨r0, r1⟩ := place_lt (v := c) (n := 4) (by omega)
  rw [hk] at hp1
  rw [hj] at hp2
  generalize place c 4 = p at hp3 r0 r1
  rw [rt_cut]
  generalize hr : ACode.seq (sL rt3) (.seq (sL (sR rt3)) (.seq (sL (sR (sR rt3))) (.seq rtI rtRest))) = rest
  simp (disch := omega) only [A_xlaw24_RulesTargets, sL, sR, wp, Nat.reduceAdd, Nat.reduceMul, Nat.reduceSub, hp1, hp2, wrap_id, Int.reduceAdd]
  subst hr
  rw [W_assoc, W_assoc]
  have hp : p = 0 ∨ p = 1 ∨ p = 2 ∨ p = 3 := by omega
  rcases hp with rfl | rfl | rfl | rfl
  · refine W_mid ruO_ok 1000 (rtChk 5 0 c _) ?_ (fun t g' h => rt_tail rfl h (by omega) (by omega) (by omega) (by omega) hp3)
    kernel_rfl
  · refine W_mid ruO_ok 1000 (rtChk 5 1 c _) ?_ (fun t g' h => rt_tail rfl h (by omega) (by omega) (by omega) (by omega) hp3)
    kernel_rfl
  · refine W_mid ruO_ok 1000 (rtChk 5 2 c _) ?_ (fun t g' h => rt_tail rfl h (by omega) (by omega) (by omega) (by omega) hp3)
    kernel_rfl
  · refine W_mid ruO_ok 1000 (rtChk 5 3 c _) ?_ (fun t g' h => rt_tail rfl h (by omega) (by omega) (by omega) (by omega) hp3)
    kernel_rfl
theorem rt_5 (a b c : Int) (hk : place a 6 = 3) : pureS funs 274 [.i .i64 a, .i .i64 b, .i .i64 c] = some (.b true) := by
  obtain ⟨q0, q1⟩ := place_lt (v := b) (n := 6) (by omega)
  generalize hx : place b 6 = x at q0 q1
  have h : x = 0 ∨ x = 1 ∨ x = 2 ∨ x = 3 ∨ x = 4 ∨ x = 5 := by omega
  rcases h with rfl | rfl | rfl | rfl | rfl | rfl
  · exact rt_5_0 a b c hk hx
  · exact rt_5_1 a b c hk hx
  · exact rt_5_2 a b c hk hx
  · exact rt_5_3 a b c hk hx
  · exact rt_5_4 a b c hk hx
  · exact rt_5_5 a b c hk hx
end Go.Proofs.Ytkbggcmlmlnepaa
end
