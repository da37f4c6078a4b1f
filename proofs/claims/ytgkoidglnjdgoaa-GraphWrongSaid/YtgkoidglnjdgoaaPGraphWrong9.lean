/- What GraphWrong rests on, part 9: lemmas, no claim of its own. -/
import Derived.Test.YtgkoidglnjdgoaaPGraphWrong4
import Derived.Test.YtgkoidglnjdgoaaPGraphWrong5
import Derived.Test.YtgkoidglnjdgoaaPGraphWrong6
import Derived.Test.YtgkoidglnjdgoaaPGraphWrong7
import Derived.Test.YtgkoidglnjdgoaaPGraphWrong8
section
namespace Go.Proofs.Ytgkoidglnjdgoaa
open Go.Ab
theorem graphWrong_law (how v : Int) : pureS funs 138 [.i .i64 how, .i .i64 v] = some (.b true) := by
  have hp1 := sp_place (F := funs) rfl (v := v) (n := 100) (by omega) (by omega)
  have hp2 := sp_place (F := funs) rfl (v := how) (n := 18) (by omega) (by omega)
  obtain ⟨r0, r1⟩ := place_lt (v := v) (n := 100) (by omega)
  obtain ⟨q0, q1⟩ := place_lt (v := how) (n := 18) (by omega)
  generalize place v 100 = k0 at hp1 r0 r1
  generalize place how 18 = x at hp2 q0 q1
  have h : x = 0 ∨ x = 1 ∨ x = 2 ∨ x = 3 ∨ x = 4 ∨ x = 5 ∨ x = 6 ∨ x = 7 ∨ x = 8 ∨ x = 9 ∨ x = 10 ∨ x = 11 ∨ x = 12 ∨ x = 13 ∨ x = 14 ∨ x = 15 ∨ x = 16 ∨ x = 17 := by omega
  rcases h with rfl | rfl | rfl | rfl | rfl | rfl | rfl | rfl | rfl | rfl | rfl | rfl | rfl | rfl | rfl | rfl | rfl | rfl
  · exact gw_0 how v k0 r0 r1 hp1 hp2
  · have hk : (0 ≤ k0 ∧ k0 < 10) ∨ (10 ≤ k0 ∧ k0 < 20) ∨ (20 ≤ k0 ∧ k0 < 30) ∨ (30 ≤ k0 ∧ k0 < 40) ∨ (40 ≤ k0 ∧ k0 < 50) ∨ (50 ≤ k0 ∧ k0 < 60) ∨ (60 ≤ k0 ∧ k0 < 70) ∨ (70 ≤ k0 ∧ k0 < 80) ∨ (80 ≤ k0 ∧ k0 < 90) ∨ (90 ≤ k0 ∧ k0 < 100) := by omega
    rcases hk with h | h | h | h | h | h | h | h | h | h
    · exact gw_1_0 how v k0 h.1 h.2 hp1 hp2
    · exact gw_1_1 how v k0 h.1 h.2 hp1 hp2
    · exact gw_1_2 how v k0 h.1 h.2 hp1 hp2
    · exact gw_1_3 how v k0 h.1 h.2 hp1 hp2
    · exact gw_1_4 how v k0 h.1 h.2 hp1 hp2
    · exact gw_1_5 how v k0 h.1 h.2 hp1 hp2
    · exact gw_1_6 how v k0 h.1 h.2 hp1 hp2
    · exact gw_1_7 how v k0 h.1 h.2 hp1 hp2
    · exact gw_1_8 how v k0 h.1 h.2 hp1 hp2
    · exact gw_1_9 how v k0 h.1 h.2 hp1 hp2
  · have hk : (0 ≤ k0 ∧ k0 < 10) ∨ (10 ≤ k0 ∧ k0 < 20) ∨ (20 ≤ k0 ∧ k0 < 30) ∨ (30 ≤ k0 ∧ k0 < 40) ∨ (40 ≤ k0 ∧ k0 < 50) ∨ (50 ≤ k0 ∧ k0 < 60) ∨ (60 ≤ k0 ∧ k0 < 70) ∨ (70 ≤ k0 ∧ k0 < 80) ∨ (80 ≤ k0 ∧ k0 < 90) ∨ (90 ≤ k0 ∧ k0 < 100) := by omega
    rcases hk with h | h | h | h | h | h | h | h | h | h
    · exact gw_2_0 how v k0 h.1 h.2 hp1 hp2
    · exact gw_2_1 how v k0 h.1 h.2 hp1 hp2
    · exact gw_2_2 how v k0 h.1 h.2 hp1 hp2
    · exact gw_2_3 how v k0 h.1 h.2 hp1 hp2
    · exact gw_2_4 how v k0 h.1 h.2 hp1 hp2
    · exact gw_2_5 how v k0 h.1 h.2 hp1 hp2
    · exact gw_2_6 how v k0 h.1 h.2 hp1 hp2
    · exact gw_2_7 how v k0 h.1 h.2 hp1 hp2
    · exact gw_2_8 how v k0 h.1 h.2 hp1 hp2
    · exact gw_2_9 how v k0 h.1 h.2 hp1 hp2
  · exact gw_3 how v k0 r0 r1 hp1 hp2
  · exact gw_4 how v k0 r0 r1 hp1 hp2
  · exact gw_5 how v k0 r0 r1 hp1 hp2
  · exact gw_6 how v k0 r0 r1 hp1 hp2
  · exact gw_7 how v k0 r0 r1 hp1 hp2
  · exact gw_8 how v k0 r0 r1 hp1 hp2
  · exact gw_9 how v k0 r0 r1 hp1 hp2
  · exact gw_10 how v k0 r0 r1 hp1 hp2
  · exact gw_11 how v k0 r0 r1 hp1 hp2
  · exact gw_12 how v k0 r0 r1 hp1 hp2
  · exact gw_13 how v k0 r0 r1 hp1 hp2
  · exact gw_14 how v k0 r0 r1 hp1 hp2
  · exact gw_15 how v k0 r0 r1 hp1 hp2
  · exact gw_16 how v k0 r0 r1 hp1 hp2
  · exact gw_17 how v k0 r0 r1 hp1 hp2
end Go.Proofs.Ytgkoidglnjdgoaa
end
