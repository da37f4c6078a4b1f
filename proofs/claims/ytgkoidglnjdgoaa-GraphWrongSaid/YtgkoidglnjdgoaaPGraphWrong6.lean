/- What GraphWrong rests on, part 6: lemmas, no claim of its own. -/
import Derived.Test.YtgkoidglnjdgoaaPGraphWrong3
section
set_option linter.unusedVariables false
set_option linter.unusedSimpArgs false
set_option maxRecDepth 100000
namespace Go.Proofs.Ytgkoidglnjdgoaa
open Go.Ab
theorem gw_1_5 (how v k0 : Int) (h0 : 50 ≤ k0) (h1 : k0 < 60) (hp1 : pureS funs 10 [.i .i64 v, .i .i64 100] = some (.i .i64 k0)) (hp2 : pureS funs 10 [.i .i64 how, .i .i64 18] = some (.i .i64 1)) : pureS funs 138 [.i .i64 how, .i .i64 v] = some (.b true) := by
  refine gw_pre (by omega) (by omega) hp1 fun e g he hg => ?_
  have hk : k0 = 50 ∨ k0 = 51 ∨ k0 = 52 ∨ k0 = 53 ∨ k0 = 54 ∨ k0 = 55 ∨ k0 = 56 ∨ k0 = 57 ∨ k0 = 58 ∨ k0 = 59 := by omega
  rcases hk with rfl | rfl | rfl | rfl | rfl | rfl | rfl | rfl | rfl | rfl
  all_goals
    subst he hg
    exact gw_mid rfl hp2 (by kernel_rfl)
theorem gw_1_6 (how v k0 : Int) (h0 : 60 ≤ k0) (h1 : k0 < 70) (hp1 : pureS funs 10 [.i .i64 v, .i .i64 100] = some (.i .i64 k0)) (hp2 : pureS funs 10 [.i .i64 how, .i .i64 18] = some (.i .i64 1)) : pureS funs 138 [.i .i64 how, .i .i64 v] = some (.b true) := by
  refine gw_pre (by omega) (by omega) hp1 fun e g he hg => ?_
  have hk : k0 = 60 ∨ k0 = 61 ∨ k0 = 62 ∨ k0 = 63 ∨ k0 = 64 ∨ k0 = 65 ∨ k0 = 66 ∨ k0 = 67 ∨ k0 = 68 ∨ k0 = 69 := by omega
  rcases hk with rfl | rfl | rfl | rfl | rfl | rfl | rfl | rfl | rfl | rfl
  all_goals
    subst he hg
    exact gw_mid rfl hp2 (by kernel_rfl)
theorem gw_1_7 (how v k0 : Int) (h0 : 70 ≤ k0) (h1 : k0 < 80) (hp1 : pureS funs 10 [.i .i64 v, .i .i64 100] = some (.i .i64 k0)) (hp2 : pureS funs 10 [.i .i64 how, .i .i64 18] = some (.i .i64 1)) : pureS funs 138 [.i .i64 how, .i .i64 v] = some (.b true) := by
  refine gw_pre (by omega) (by omega) hp1 fun e g he hg => ?_
  have hk : k0 = 70 ∨ k0 = 71 ∨ k0 = 72 ∨ k0 = 73 ∨ k0 = 74 ∨ k0 = 75 ∨ k0 = 76 ∨ k0 = 77 ∨ k0 = 78 ∨ k0 = 79 := by omega
  rcases hk with rfl | rfl | rfl | rfl | rfl | rfl | rfl | rfl | rfl | rfl
  all_goals
    subst he hg
    exact gw_mid rfl hp2 (by kernel_rfl)
theorem gw_1_8 (how v k0 : Int) (h0 : 80 ≤ k0) (h1 : k0 < 90) (hp1 : pureS funs 10 [.i .i64 v, .i .i64 100] = some (.i .i64 k0)) (hp2 : pureS funs 10 [.i .i64 how, .i .i64 18] = some (.i .i64 1)) : pureS funs 138 [.i .i64 how, .i .i64 v] = some (.b true) := by
  refine gw_pre (by omega) (by omega) hp1 fun e g he hg => ?_
  have hk : k0 = 80 ∨ k0 = 81 ∨ k0 = 82 ∨ k0 = 83 ∨ k0 = 84 ∨ k0 = 85 ∨ k0 = 86 ∨ k0 = 87 ∨ k0 = 88 ∨ k0 = 89 := by omega
  rcases hk with rfl | rfl | rfl | rfl | rfl | rfl | rfl | rfl | rfl | rfl
  all_goals
    subst he hg
    exact gw_mid rfl hp2 (by kernel_rfl)
theorem gw_1_9 (how v k0 : Int) (h0 : 90 ≤ k0) (h1 : k0 < 100) (hp1 : pureS funs 10 [.i .i64 v, .i .i64 100] = some (.i .i64 k0)) (hp2 : pureS funs 10 [.i .i64 how, .i .i64 18] = some (.i .i64 1)) : pureS funs 138 [.i .i64 how, .i .i64 v] = some (.b true) := by
  refine gw_pre (by omega) (by omega) hp1 fun e g he hg => ?_
  have hk : k0 = 90 ∨ k0 = 91 ∨ k0 = 92 ∨ k0 = 93 ∨ k0 = 94 ∨ k0 = 95 ∨ k0 = 96 ∨ k0 = 97 ∨ k0 = 98 ∨ k0 = 99 := by omega
  rcases hk with rfl | rfl | rfl | rfl | rfl | rfl | rfl | rfl | rfl | rfl
  all_goals
    subst he hg
    exact gw_mid rfl hp2 (by kernel_rfl)
end Go.Proofs.Ytgkoidglnjdgoaa
end
