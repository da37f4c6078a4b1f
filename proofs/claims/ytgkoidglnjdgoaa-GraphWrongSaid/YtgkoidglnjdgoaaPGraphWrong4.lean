/- What GraphWrong rests on, part 4: lemmas, no claim of its own. -/
import Derived.Test.YtgkoidglnjdgoaaPGraphWrong3
section
set_option linter.unusedVariables false
set_option linter.unusedSimpArgs false
set_option maxRecDepth 100000
namespace Go.Proofs.Ytgkoidglnjdgoaa
open Go.Ab
theorem gw_0 (how v k0 : Int) (h0 : 0 ≤ k0) (h1 : k0 < 100) (hp1 : pureS funs 10 [.i .i64 v, .i .i64 100] = some (.i .i64 k0)) (hp2 : pureS funs 10 [.i .i64 how, .i .i64 18] = some (.i .i64 0)) : pureS funs 138 [.i .i64 how, .i .i64 v] = some (.b true) := by
  refine gw_pre h0 h1 hp1 fun e g he hg => ?_
  subst he hg
  exact gw_mid rfl hp2 (by kernel_rfl)
theorem gw_3 (how v k0 : Int) (h0 : 0 ≤ k0) (h1 : k0 < 100) (hp1 : pureS funs 10 [.i .i64 v, .i .i64 100] = some (.i .i64 k0)) (hp2 : pureS funs 10 [.i .i64 how, .i .i64 18] = some (.i .i64 3)) : pureS funs 138 [.i .i64 how, .i .i64 v] = some (.b true) := by
  refine gw_pre h0 h1 hp1 fun e g he hg => ?_
  subst he hg
  exact gw_mid rfl hp2 (by kernel_rfl)
theorem gw_4 (how v k0 : Int) (h0 : 0 ≤ k0) (h1 : k0 < 100) (hp1 : pureS funs 10 [.i .i64 v, .i .i64 100] = some (.i .i64 k0)) (hp2 : pureS funs 10 [.i .i64 how, .i .i64 18] = some (.i .i64 4)) : pureS funs 138 [.i .i64 how, .i .i64 v] = some (.b true) := by
  refine gw_pre h0 h1 hp1 fun e g he hg => ?_
  subst he hg
  exact gw_mid rfl hp2 (by kernel_rfl)
theorem gw_5 (how v k0 : Int) (h0 : 0 ≤ k0) (h1 : k0 < 100) (hp1 : pureS funs 10 [.i .i64 v, .i .i64 100] = some (.i .i64 k0)) (hp2 : pureS funs 10 [.i .i64 how, .i .i64 18] = some (.i .i64 5)) : pureS funs 138 [.i .i64 how, .i .i64 v] = some (.b true) := by
  refine gw_pre h0 h1 hp1 fun e g he hg => ?_
  subst he hg
  exact gw_mid rfl hp2 (by kernel_rfl)
theorem gw_6 (how v k0 : Int) (h0 : 0 ≤ k0) (h1 : k0 < 100) (hp1 : pureS funs 10 [.i .i64 v, .i .i64 100] = some (.i .i64 k0)) (hp2 : pureS funs 10 [.i .i64 how, .i .i64 18] = some (.i .i64 6)) : pureS funs 138 [.i .i64 how, .i .i64 v] = some (.b true) := by
  refine gw_pre h0 h1 hp1 fun e g he hg => ?_
  subst he hg
  exact gw_mid rfl hp2 (by kernel_rfl)
theorem gw_7 (how v k0 : Int) (h0 : 0 ≤ k0) (h1 : k0 < 100) (hp1 : pureS funs 10 [.i .i64 v, .i .i64 100] = some (.i .i64 k0)) (hp2 : pureS funs 10 [.i .i64 how, .i .i64 18] = some (.i .i64 7)) : pureS funs 138 [.i .i64 how, .i .i64 v] = some (.b true) := by
  refine gw_pre h0 h1 hp1 fun e g he hg => ?_
  subst he hg
  exact gw_mid rfl hp2 (by kernel_rfl)
theorem gw_8 (how v k0 : Int) (h0 : 0 ≤ k0) (h1 : k0 < 100) (hp1 : pureS funs 10 [.i .i64 v, .i .i64 100] = some (.i .i64 k0)) (hp2 : pureS funs 10 [.i .i64 how, .i .i64 18] = some (.i .i64 8)) : pureS funs 138 [.i .i64 how, .i .i64 v] = some (.b true) := by
  refine gw_pre h0 h1 hp1 fun e g he hg => ?_
  subst he hg
  exact gw_mid rfl hp2 (by kernel_rfl)
theorem gw_9 (how v k0 : Int) (h0 : 0 ≤ k0) (h1 : k0 < 100) (hp1 : pureS funs 10 [.i .i64 v, .i .i64 100] = some (.i .i64 k0)) (hp2 : pureS funs 10 [.i .i64 how, .i .i64 18] = some (.i .i64 9)) : pureS funs 138 [.i .i64 how, .i .i64 v] = some (.b true) := by
  refine gw_pre h0 h1 hp1 fun e g he hg => ?_
  subst he hg
  exact gw_mid rfl hp2 (by kernel_rfl)
theorem gw_10 (how v k0 : Int) (h0 : 0 ≤ k0) (h1 : k0 < 100) (hp1 : pureS funs 10 [.i .i64 v, .i .i64 100] = some (.i .i64 k0)) (hp2 : pureS funs 10 [.i .i64 how, .i .i64 18] = some (.i .i64 10)) : pureS funs 138 [.i .i64 how, .i .i64 v] = some (.b true) := by
  refine gw_pre h0 h1 hp1 fun e g he hg => ?_
  subst he hg
  exact gw_mid rfl hp2 (by kernel_rfl)
theorem gw_11 (how v k0 : Int) (h0 : 0 ≤ k0) (h1 : k0 < 100) (hp1 : pureS funs 10 [.i .i64 v, .i .i64 100] = some (.i .i64 k0)) (hp2 : pureS funs 10 [.i .i64 how, .i .i64 18] = some (.i .i64 11)) : pureS funs 138 [.i .i64 how, .i .i64 v] = some (.b true) := by
  refine gw_pre h0 h1 hp1 fun e g he hg => ?_
  subst he hg
  exact gw_mid rfl hp2 (by kernel_rfl)
theorem gw_12 (how v k0 : Int) (h0 : 0 ≤ k0) (h1 : k0 < 100) (hp1 : pureS funs 10 [.i .i64 v, .i .i64 100] = some (.i .i64 k0)) (hp2 : pureS funs 10 [.i .i64 how, .i .i64 18] = some (.i .i64 12)) : pureS funs 138 [.i .i64 how, .i .i64 v] = some (.b true) := by
  refine gw_pre h0 h1 hp1 fun e g he hg => ?_
  subst he hg
  exact gw_mid rfl hp2 (by kernel_rfl)
theorem gw_13 (how v k0 : Int) (h0 : 0 ≤ k0) (h1 : k0 < 100) (hp1 : pureS funs 10 [.i .i64 v, .i .i64 100] = some (.i .i64 k0)) (hp2 : pureS funs 10 [.i .i64 how, .i .i64 18] = some (.i .i64 13)) : pureS funs 138 [.i .i64 how, .i .i64 v] = some (.b true) := by
  refine gw_pre h0 h1 hp1 fun e g he hg => ?_
  subst he hg
  exact gw_mid rfl hp2 (by kernel_rfl)
theorem gw_14 (how v k0 : Int) (h0 : 0 ≤ k0) (h1 : k0 < 100) (hp1 : pureS funs 10 [.i .i64 v, .i .i64 100] = some (.i .i64 k0)) (hp2 : pureS funs 10 [.i .i64 how, .i .i64 18] = some (.i .i64 14)) : pureS funs 138 [.i .i64 how, .i .i64 v] = some (.b true) := by
  refine gw_pre h0 h1 hp1 fun e g he hg => ?_
  subst he hg
  exact gw_mid rfl hp2 (by kernel_rfl)
theorem gw_15 (how v k0 : Int) (h0 : 0 ≤ k0) (h1 : k0 < 100) (hp1 : pureS funs 10 [.i .i64 v, .i .i64 100] = some (.i .i64 k0)) (hp2 : pureS funs 10 [.i .i64 how, .i .i64 18] = some (.i .i64 15)) : pureS funs 138 [.i .i64 how, .i .i64 v] = some (.b true) := by
  refine gw_pre h0 h1 hp1 fun e g he hg => ?_
  subst he hg
  exact gw_mid rfl hp2 (by kernel_rfl)
theorem gw_16 (how v k0 : Int) (h0 : 0 ≤ k0) (h1 : k0 < 100) (hp1 : pureS funs 10 [.i .i64 v, .i .i64 100] = some (.i .i64 k0)) (hp2 : pureS funs 10 [.i .i64 how, .i .i64 18] = some (.i .i64 16)) : pureS funs 138 [.i .i64 how, .i .i64 v] = some (.b true) := by
  refine gw_pre h0 h1 hp1 fun e g he hg => ?_
  subst he hg
  exact gw_mid rfl hp2 (by kernel_rfl)
theorem gw_17 (how v k0 : Int) (h0 : 0 ≤ k0) (h1 : k0 < 100) (hp1 : pureS funs 10 [.i .i64 v, .i .i64 100] = some (.i .i64 k0)) (hp2 : pureS funs 10 [.i .i64 how, .i .i64 18] = some (.i .i64 17)) : pureS funs 138 [.i .i64 how, .i .i64 v] = some (.b true) := by
  refine gw_pre h0 h1 hp1 fun e g he hg => ?_
  subst he hg
  exact gw_mid rfl hp2 (by kernel_rfl)
end Go.Proofs.Ytgkoidglnjdgoaa
end
