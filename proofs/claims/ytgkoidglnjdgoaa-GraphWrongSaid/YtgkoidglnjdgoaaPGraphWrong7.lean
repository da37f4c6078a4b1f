/- What GraphWrong rests on, part 7: lemmas, no claim of its own. -/
import Derived.Test.YtgkoidglnjdgoaaPGraphWrong3
section
set_option linter.unusedVariables false
set_option linter.unusedSimpArgs false
set_option maxRecDepth 100000
namespace Go.Proofs.Ytgkoidglnjdgoaa
open Go.Ab
theorem gw_2_0 (how v k0 : Int) (h0 : 0 ≤ k0) (h1 : k0 < 10) (hp1 : pureS funs 10 [.i .i64 v, .i .i64 100] = some (.i .i64 k0)) (hp2 : pureS funs 10 [.i .i64 how, .i .i64 18] = some (.i .i64 2)) : pureS funs 138 [.i .i64 how, .i .i64 v] = some (.b true) := by
  refine gw_pre (by omega) (by omega) hp1 fun e g he hg => ?_
  have hk : k0 = 0 ∨ k0 = 1 ∨ k0 = 2 ∨ k0 = 3 ∨ k0 = 4 ∨ k0 = 5 ∨ k0 = 6 ∨ k0 = 7 ∨ k0 = 8 ∨ k0 = 9 := by omega
  rcases hk with rfl | rfl | rfl | rfl | rfl | rfl | rfl | rfl | rfl | rfl
  all_goals
    subst he hg
    exact gw_mid rfl hp2 (by kernel_rfl)
theorem gw_2_1 (how v k0 : Int) (h0 : 10 ≤ k0) (h1 : k0 < 20) (hp1 : pureS funs 10 [.i .i64 v, .i .i64 100] = some (.i .i64 k0)) (hp2 : pureS funs 10 [.i .i64 how, .i .i64 18] = some (.i .i64 2)) : pureS funs 138 [.i .i64 how, .i .i64 v] = some (.b true) := by
  refine gw_pre (by omega) (by omega) hp1 fun e g he hg => ?_
  have hk : k0 = 10 ∨ k0 = 11 ∨ k0 = 12 ∨ k0 = 13 ∨ k0 = 14 ∨ k0 = 15 ∨ k0 = 16 ∨ k0 = 17 ∨ k0 = 18 ∨ k0 = 19 := by omega
  rcases hk with rfl | rfl | rfl | rfl | rfl | rfl | rfl | rfl | rfl | rfl
  all_goals
    subst he hg
    exact gw_mid rfl hp2 (by kernel_rfl)
theorem gw_2_2 (how v k0 : Int) (h0 : 20 ≤ k0) (h1 : k0 < 30) (hp1 : pureS funs 10 [.i .i64 v, .i .i64 100] = some (.i .i64 k0)) (hp2 : pureS funs 10 [.i .i64 how, .i .i64 18] = some (.i .i64 2)) : pureS funs 138 [.i .i64 how, .i .i64 v] = some (.b true) := by
  refine gw_pre (by omega) (by omega) hp1 fun e g he hg => ?_
  have hk : k0 = 20 ∨ k0 = 21 ∨ k0 = 22 ∨ k0 = 23 ∨ k0 = 24 ∨ k0 = 25 ∨ k0 = 26 ∨ k0 = 27 ∨ k0 = 28 ∨ k0 = 29 := by omega
  rcases hk with rfl | rfl | rfl | rfl | rfl | rfl | rfl | rfl | rfl | rfl
  all_goals
    subst he hg
    exact gw_mid rfl hp2 (by kernel_rfl)
theorem gw_2_3 (how v k0 : Int) (h0 : 30 ≤ k0) (h1 : k0 < 40) (hp1 : pureS funs 10 [.i .i64 v, .i .i64 100] = some (.i .i64 k0)) (hp2 : pureS funs 10 [.i .i64 how, .i .i64 18] = some (.i .i64 2)) : pureS funs 138 [.i .i64 how, .i .i64 v] = some (.b true) := by
  refine gw_pre (by omega) (by omega) hp1 fun e g he hg => ?_
  have hk : k0 = 30 ∨ k0 = 31 ∨ k0 = 32 ∨ k0 = 33 ∨ k0 = 34 ∨ k0 = 35 ∨ k0 = 36 ∨ k0 = 37 ∨ k0 = 38 ∨ k0 = 39 := by omega
  rcases hk with rfl | rfl | rfl | rfl | rfl | rfl | rfl | rfl | rfl | rfl
  all_goals
    subst he hg
    exact gw_mid rfl hp2 (by kernel_rfl)
theorem gw_2_4 (how v k0 : Int) (h0 : 40 ≤ k0) (h1 : k0 < 50) (hp1 : pureS funs 10 [.i .i64 v, .i .i64 100] = some (.i .i64 k0)) (hp2 : pureS funs 10 [.i .i64 how, .i .i64 18] = some (.i .i64 2)) : pureS funs 138 [.i .i64 how, .i .i64 v] = some (.b true) := by
  refine gw_pre (by omega) (by omega) hp1 fun e g he hg => ?_
  have hk : k0 = 40 ∨ k0 = 41 ∨ k0 = 42 ∨ k0 = 43 ∨ k0 = 44 ∨ k0 = 45 ∨ k0 = 46 ∨ k0 = 47 ∨ k0 = 48 ∨ k0 = 49 := by omega
  rcases hk with rfl | rfl | rfl | rfl | rfl | rfl | rfl | rfl | rfl | rfl
  all_goals
    subst he hg
    exact gw_mid rfl hp2 (by kernel_rfl)
end Go.Proofs.Ytgkoidglnjdgoaa
end
