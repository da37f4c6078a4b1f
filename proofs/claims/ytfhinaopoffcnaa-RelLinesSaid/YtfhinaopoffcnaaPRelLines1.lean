/- What the functions compute that RelLines reaches, part 1; lemmas, no claim of its own. -/
import Derived.Test.YtfhinaopoffcnaaChecked
import Derived.KernelRfl
import Derived.Test.YtfhinaopoffcnaaGA
import Derived.Test.YtfhinaopoffcnaaGB
import Derived.Test.YtfhinaopoffcnaaGC
import Derived.Test.YtfhinaopoffcnaaGD
section
/- The functions that are reached, asx resolved, held against the program (written by a program, tab.py). -/
set_option maxRecDepth 100000
set_option linter.unusedVariables false
namespace Go.Proofs.Ytfhinaopoffcnaa
open Go.Ab
def tab : List (Nat × Nat × AFun) := [(1, 3, A_xlaw01_RelLines),
 (2, 4, A_xlaw01_RelAlgebra),
 (3, 5, A_xlaw01_RelSizes),
 (10, 12, A_xlaw00_Place),
 (11, 13, A_rel_New),
 (12, 14, A_rel_Rel_Plus),
 (13, 15, A_rel_Rel_Has),
 (14, 16, A_rel_Rel_Loops),
 (15, 17, A_rel_Rel_Pairs),
 (16, 18, A_rel_Rel_Maybe),
 (17, 19, A_rel_Rel_Len),
 (18, 20, A_rel_Rel_And),
 (19, 21, A_xlaw01_awake),
 (20, 22, A_xlaw01_some),
 (21, 23, A_xlaw01_RelAlgebra_1),
 (22, 24, A_rel_Rel_In),
 (23, 25, A_rel_Rel_Then),
 (24, 26, A_rel_Rel_Or),
 (25, 27, A_rel_Rel_Back),
 (26, 28, A_rel_Rel_Less),
 (51, 53, A_rel_Rel_by),
 (52, 54, A_rel_Rel_And_1),
 (53, 55, A_rel_Rel_Or_1),
 (54, 56, A_rel_Rel_Less_1)]
def num (f : Nat) : Nat := ((tab.find? (fun r => r.1 == f)).map (·.2.1)).getD 0
def funs : Funs := fun f => (tab.find? (fun r => r.1 == f)).map (·.2.2)
theorem c1 : funB Try.prog num Try.f3 A_xlaw01_RelLines = true := by kernel_rfl
theorem c2 : funB Try.prog num Try.f4 A_xlaw01_RelAlgebra = true := by kernel_rfl
theorem c3 : funB Try.prog num Try.f5 A_xlaw01_RelSizes = true := by kernel_rfl
theorem c10 : funB Try.prog num Try.f12 A_xlaw00_Place = true := by kernel_rfl
theorem c11 : funB Try.prog num Try.f13 A_rel_New = true := by kernel_rfl
theorem c12 : funB Try.prog num Try.f14 A_rel_Rel_Plus = true := by kernel_rfl
theorem c13 : funB Try.prog num Try.f15 A_rel_Rel_Has = true := by kernel_rfl
theorem c14 : funB Try.prog num Try.f16 A_rel_Rel_Loops = true := by kernel_rfl
theorem c15 : funB Try.prog num Try.f17 A_rel_Rel_Pairs = true := by kernel_rfl
theorem c16 : funB Try.prog num Try.f18 A_rel_Rel_Maybe = true := by kernel_rfl
theorem c17 : funB Try.prog num Try.f19 A_rel_Rel_Len = true := by kernel_rfl
theorem c18 : funB Try.prog num Try.f20 A_rel_Rel_And = true := by kernel_rfl
theorem c19 : funB Try.prog num Try.f21 A_xlaw01_awake = true := by kernel_rfl
theorem c20 : funB Try.prog num Try.f22 A_xlaw01_some = true := by kernel_rfl
theorem c21 : funB Try.prog num Try.f23 A_xlaw01_RelAlgebra_1 = true := by kernel_rfl
theorem c22 : funB Try.prog num Try.f24 A_rel_Rel_In = true := by kernel_rfl
theorem c23 : funB Try.prog num Try.f25 A_rel_Rel_Then = true := by kernel_rfl
theorem c24 : funB Try.prog num Try.f26 A_rel_Rel_Or = true := by kernel_rfl
theorem c25 : funB Try.prog num Try.f27 A_rel_Rel_Back = true := by kernel_rfl
theorem c26 : funB Try.prog num Try.f28 A_rel_Rel_Less = true := by kernel_rfl
theorem c51 : funB Try.prog num Try.f53 A_rel_Rel_by = true := by kernel_rfl
theorem c52 : funB Try.prog num Try.f54 A_rel_Rel_And_1 = true := by kernel_rfl
theorem c53 : funB Try.prog num Try.f55 A_rel_Rel_Or_1 = true := by kernel_rfl
theorem c54 : funB Try.prog num Try.f56 A_rel_Rel_Less_1 = true := by kernel_rfl
def Good (r : Nat × Nat × AFun) : Prop := num r.1 = r.2.1 ∧ ∃ fn, Try.prog.funcs[r.2.1]? = some fn ∧ funB Try.prog num fn r.2.2 = true
theorem good : ∀ r ∈ tab, Good r := by
  intro r hr
  unfold tab at hr
  rcases List.mem_cons.1 hr with rfl | hr
  · exact ⟨by kernel_rfl, _, Try.func3, c1⟩
  rcases List.mem_cons.1 hr with rfl | hr
  · exact ⟨by kernel_rfl, _, Try.func4, c2⟩
  rcases List.mem_cons.1 hr with rfl | hr
  · exact ⟨by kernel_rfl, _, Try.func5, c3⟩
  rcases List.mem_cons.1 hr with rfl | hr
  · exact ⟨by kernel_rfl, _, Try.func12, c10⟩
  rcases List.mem_cons.1 hr with rfl | hr
  · exact ⟨by kernel_rfl, _, Try.func13, c11⟩
  rcases List.mem_cons.1 hr with rfl | hr
  · exact ⟨by kernel_rfl, _, Try.func14, c12⟩
  rcases List.mem_cons.1 hr with rfl | hr
  · exact ⟨by kernel_rfl, _, Try.func15, c13⟩
  rcases List.mem_cons.1 hr with rfl | hr
  · exact ⟨by kernel_rfl, _, Try.func16, c14⟩
  rcases List.mem_cons.1 hr with rfl | hr
  · exact ⟨by kernel_rfl, _, Try.func17, c15⟩
  rcases List.mem_cons.1 hr with rfl | hr
  · exact ⟨by kernel_rfl, _, Try.func18, c16⟩
  rcases List.mem_cons.1 hr with rfl | hr
  · exact ⟨by kernel_rfl, _, Try.func19, c17⟩
  rcases List.mem_cons.1 hr with rfl | hr
  · exact ⟨by kernel_rfl, _, Try.func20, c18⟩
  rcases List.mem_cons.1 hr with rfl | hr
  · exact ⟨by kernel_rfl, _, Try.func21, c19⟩
  rcases List.mem_cons.1 hr with rfl | hr
  · exact ⟨by kernel_rfl, _, Try.func22, c20⟩
  rcases List.mem_cons.1 hr with rfl | hr
  · exact ⟨by kernel_rfl, _, Try.func23, c21⟩
  rcases List.mem_cons.1 hr with rfl | hr
  · exact ⟨by kernel_rfl, _, Try.func24, c22⟩
  rcases List.mem_cons.1 hr with rfl | hr
  · exact ⟨by kernel_rfl, _, Try.func25, c23⟩
  rcases List.mem_cons.1 hr with rfl | hr
  · exact ⟨by kernel_rfl, _, Try.func26, c24⟩
  rcases List.mem_cons.1 hr with rfl | hr
  · exact ⟨by kernel_rfl, _, Try.func27, c25⟩
  rcases List.mem_cons.1 hr with rfl | hr
  · exact ⟨by kernel_rfl, _, Try.func28, c26⟩
  rcases List.mem_cons.1 hr with rfl | hr
  · exact ⟨by kernel_rfl, _, Try.func53, c51⟩
  rcases List.mem_cons.1 hr with rfl | hr
  · exact ⟨by kernel_rfl, _, Try.func54, c52⟩
  rcases List.mem_cons.1 hr with rfl | hr
  · exact ⟨by kernel_rfl, _, Try.func55, c53⟩
  rcases List.mem_cons.1 hr with rfl | hr
  · exact ⟨by kernel_rfl, _, Try.func56, c54⟩
  cases hr
theorem table : Table Try.prog num funs := by
  intro f A h
  unfold funs at h
  cases hf : tab.find? (fun r => r.1 == f) with
  | none => rw [hf] at h; cases h
  | some r =>
    rw [hf] at h; cases h
    have h1 := List.find?_some hf
    simp only [beq_iff_eq] at h1
    subst h1
    obtain ⟨h2, h3⟩ := good r (List.mem_of_find?_eq_some hf)
    rw [h2]; exact h3
theorem pk_rel : Pk_rel funs := ⟨rfl, rfl, rfl, rfl, rfl, rfl, rfl, rfl, rfl, rfl, rfl, rfl, rfl, rfl, rfl, rfl, rfl⟩
end Go.Proofs.Ytfhinaopoffcnaa
end
