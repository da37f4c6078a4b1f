/- What the functions compute that RelAll reaches, part 1; lemmas, no claim of its own. -/
import Derived.Test.YtfhinaopoffcnaaChecked
import Derived.KernelRfl
import Derived.Test.YtfhinaopoffcnaaGA
import Derived.Test.YtfhinaopoffcnaaGB
import Derived.Test.YtfhinaopoffcnaaGC
import Derived.Test.YtfhinaopoffcnaaGD
import Derived.Test.YtfhinaopoffcnaaGE
import Derived.Test.YtfhinaopoffcnaaGF
section
/- The functions that are reached, asx resolved, held against the program (written by a program, tab.py). -/
set_option maxRecDepth 100000
set_option linter.unusedVariables false
namespace Go.Proofs.Ytfhinaopoffcnaa
open Go.Ab
def tab : List (Nat × Nat × AFun) := [(4, 6, A_xlaw01_RelAll),
 (11, 13, A_rel_New),
 (12, 14, A_rel_Rel_Plus),
 (13, 15, A_rel_Rel_Has),
 (14, 16, A_rel_Rel_Loops),
 (15, 17, A_rel_Rel_Pairs),
 (16, 18, A_rel_Rel_Maybe),
 (17, 19, A_rel_Rel_Len),
 (18, 20, A_rel_Rel_And),
 (19, 21, A_xlaw01_awake),
 (22, 24, A_rel_Rel_In),
 (23, 25, A_rel_Rel_Then),
 (24, 26, A_rel_Rel_Or),
 (25, 27, A_rel_Rel_Back),
 (26, 28, A_rel_Rel_Less),
 (27, 29, A_xref01_New),
 (28, 30, A_xlaw01_same),
 (29, 31, A_xref01_R_Or),
 (30, 32, A_xref01_R_And),
 (31, 33, A_xref01_R_Less),
 (32, 34, A_xref01_R_Then),
 (33, 35, A_xref01_R_Back),
 (34, 36, A_xref01_R_Plus),
 (35, 37, A_xref01_R_Maybe),
 (36, 38, A_xref01_R_In),
 (37, 39, A_xref01_R_Loops),
 (38, 40, A_xref01_R_Has),
 (51, 53, A_rel_Rel_by),
 (52, 54, A_rel_Rel_And_1),
 (53, 55, A_rel_Rel_Or_1),
 (54, 56, A_rel_Rel_Less_1),
 (55, 57, A_xref01_SamePairs),
 (56, 58, A_xref01_R_Pairs)]
def num (f : Nat) : Nat := ((tab.find? (fun r => r.1 == f)).map (·.2.1)).getD 0
def funs : Funs := fun f => (tab.find? (fun r => r.1 == f)).map (·.2.2)
theorem c4 : funB Try.prog num Try.f6 A_xlaw01_RelAll = true := by kernel_rfl
theorem c11 : funB Try.prog num Try.f13 A_rel_New = true := by kernel_rfl
theorem c12 : funB Try.prog num Try.f14 A_rel_Rel_Plus = true := by kernel_rfl
theorem c13 : funB Try.prog num Try.f15 A_rel_Rel_Has = true := by kernel_rfl
theorem c14 : funB Try.prog num Try.f16 A_rel_Rel_Loops = true := by kernel_rfl
theorem c15 : funB Try.prog num Try.f17 A_rel_Rel_Pairs = true := by kernel_rfl
theorem c16 : funB Try.prog num Try.f18 A_rel_Rel_Maybe = true := by kernel_rfl
theorem c17 : funB Try.prog num Try.f19 A_rel_Rel_Len = true := by kernel_rfl
theorem c18 : funB Try.prog num Try.f20 A_rel_Rel_And = true := by kernel_rfl
theorem c19 : funB Try.prog num Try.f21 A_xlaw01_awake = true := by kernel_rfl
theorem c22 : funB Try.prog num Try.f24 A_rel_Rel_In = true := by kernel_rfl
theorem c23 : funB Try.prog num Try.f25 A_rel_Rel_Then = true := by kernel_rfl
theorem c24 : funB Try.prog num Try.f26 A_rel_Rel_Or = true := by kernel_rfl
theorem c25 : funB Try.prog num Try.f27 A_rel_Rel_Back = true := by kernel_rfl
theorem c26 : funB Try.prog num Try.f28 A_rel_Rel_Less = true := by kernel_rfl
theorem c27 : funB Try.prog num Try.f29 A_xref01_New = true := by kernel_rfl
theorem c28 : funB Try.prog num Try.f30 A_xlaw01_same = true := by kernel_rfl
theorem c29 : funB Try.prog num Try.f31 A_xref01_R_Or = true := by kernel_rfl
theorem c30 : funB Try.prog num Try.f32 A_xref01_R_And = true := by kernel_rfl
theorem c31 : funB Try.prog num Try.f33 A_xref01_R_Less = true := by kernel_rfl
theorem c32 : funB Try.prog num Try.f34 A_xref01_R_Then = true := by kernel_rfl
theorem c33 : funB Try.prog num Try.f35 A_xref01_R_Back = true := by kernel_rfl
theorem c34 : funB Try.prog num Try.f36 A_xref01_R_Plus = true := by kernel_rfl
theorem c35 : funB Try.prog num Try.f37 A_xref01_R_Maybe = true := by kernel_rfl
theorem c36 : funB Try.prog num Try.f38 A_xref01_R_In = true := by kernel_rfl
theorem c37 : funB Try.prog num Try.f39 A_xref01_R_Loops = true := by kernel_rfl
theorem c38 : funB Try.prog num Try.f40 A_xref01_R_Has = true := by kernel_rfl
theorem c51 : funB Try.prog num Try.f53 A_rel_Rel_by = true := by kernel_rfl
theorem c52 : funB Try.prog num Try.f54 A_rel_Rel_And_1 = true := by kernel_rfl
theorem c53 : funB Try.prog num Try.f55 A_rel_Rel_Or_1 = true := by kernel_rfl
theorem c54 : funB Try.prog num Try.f56 A_rel_Rel_Less_1 = true := by kernel_rfl
theorem c55 : funB Try.prog num Try.f57 A_xref01_SamePairs = true := by kernel_rfl
theorem c56 : funB Try.prog num Try.f58 A_xref01_R_Pairs = true := by kernel_rfl
def Good (r : Nat × Nat × AFun) : Prop := num r.1 = r.2.1 ∧ ∃ fn, Try.prog.funcs[r.2.1]? = some fn ∧ funB Try.prog num fn r.2.2 = true
theorem good : ∀ r ∈ tab, Good r := by
  intro r hr
  unfold tab at hr
  rcases List.mem_cons.1 hr with rfl | hr
  · exact ⟨by kernel_rfl, _, Try.func6, c4⟩
  rcases List.mem_cons.1 hr with rfl | hr
  · exact ⟨by kernel_rfl, _, Try.func13, c11⟩
  rcases List.mem_cons.1 hr with rfl | hr
  · exact ⟨by kernel_rfl, _, Try.func14, c12⟩
  rcases List.mem_cons.1 hr with rfl | hr
  · exact ⟨by kernel_rfl, _, Try.func15, c13⟩
  rcases List.mem_cons.1 hr with rfl | hr
  · exact ⟨by kernel_rfl, _, Try.func16, c14⟩
  rcases List.mem_cons.1 hr with rfl | hr
  · exact ⟨by kernel_rfl, _, Try.func17, c15⟩
  rcases List.mem_cons.1 hr with rfl | hr
  · exact ⟨by kernel_rfl, _, Try.func18, c16⟩
  rcases List.mem_cons.1 hr with rfl | hr
  · exact ⟨by kernel_rfl, _, Try.func19, c17⟩
  rcases List.mem_cons.1 hr with rfl | hr
  · exact ⟨by kernel_rfl, _, Try.func20, c18⟩
  rcases List.mem_cons.1 hr with rfl | hr
  · exact ⟨by kernel_rfl, _, Try.func21, c19⟩
  rcases List.mem_cons.1 hr with rfl | hr
  · exact ⟨by kernel_rfl, _, Try.func24, c22⟩
  rcases List.mem_cons.1 hr with rfl | hr
  · exact ⟨by kernel_rfl, _, Try.func25, c23⟩
  rcases List.mem_cons.1 hr with rfl | hr
  · exact ⟨by kernel_rfl, _, Try.func26, c24⟩
  rcases List.mem_cons.1 hr with rfl | hr
  · exact ⟨by kernel_rfl, _, Try.func27, c25⟩
  rcases List.mem_cons.1 hr with rfl | hr
  · exact ⟨by kernel_rfl, _, Try.func28, c26⟩
  rcases List.mem_cons.1 hr with rfl | hr
  · exact ⟨by kernel_rfl, _, Try.func29, c27⟩
  rcases List.mem_cons.1 hr with rfl | hr
  · exact ⟨by kernel_rfl, _, Try.func30, c28⟩
  rcases List.mem_cons.1 hr with rfl | hr
  · exact ⟨by kernel_rfl, _, Try.func31, c29⟩
  rcases List.mem_cons.1 hr with rfl | hr
  · exact ⟨by kernel_rfl, _, Try.func32, c30⟩
  rcases List.mem_cons.1 hr with rfl | hr
  · exact ⟨by kernel_rfl, _, Try.func33, c31⟩
  rcases List.mem_cons.1 hr with rfl | hr
  · exact ⟨by kernel_rfl, _, Try.func34, c32⟩
  rcases List.mem_cons.1 hr with rfl | hr
  · exact ⟨by kernel_rfl, _, Try.func35, c33⟩
  rcases List.mem_cons.1 hr with rfl | hr
  · exact ⟨by kernel_rfl, _, Try.func36, c34⟩
  rcases List.mem_cons.1 hr with rfl | hr
  · exact ⟨by kernel_rfl, _, Try.func37, c35⟩
  rcases List.mem_cons.1 hr with rfl | hr
  · exact ⟨by kernel_rfl, _, Try.func38, c36⟩
  rcases List.mem_cons.1 hr with rfl | hr
  · exact ⟨by kernel_rfl, _, Try.func39, c37⟩
  rcases List.mem_cons.1 hr with rfl | hr
  · exact ⟨by kernel_rfl, _, Try.func40, c38⟩
  rcases List.mem_cons.1 hr with rfl | hr
  · exact ⟨by kernel_rfl, _, Try.func53, c51⟩
  rcases List.mem_cons.1 hr with rfl | hr
  · exact ⟨by kernel_rfl, _, Try.func54, c52⟩
  rcases List.mem_cons.1 hr with rfl | hr
  · exact ⟨by kernel_rfl, _, Try.func55, c53⟩
  rcases List.mem_cons.1 hr with rfl | hr
  · exact ⟨by kernel_rfl, _, Try.func56, c54⟩
  rcases List.mem_cons.1 hr with rfl | hr
  · exact ⟨by kernel_rfl, _, Try.func57, c55⟩
  rcases List.mem_cons.1 hr with rfl | hr
  · exact ⟨by kernel_rfl, _, Try.func58, c56⟩
  cases hr
theorem table : Table Try.prog num funs := by
  intro f A h
  unfold funs at h
  cases hf : tab.find? (fun r => r.1 == f) with
  | none => rw [hf] at h; cases h
  | some r =>
    rw [hf] at h; cases h
    have h1 := List.find?_some hf
    simp only [beq_iff_eq] at h1
    subst h1
    obtain ⟨h2, h3⟩ := good r (List.mem_of_find?_eq_some hf)
    rw [h2]; exact h3
theorem pk_xref01 : Pk_xref01 funs := ⟨rfl, rfl, rfl, rfl, rfl, rfl, rfl, rfl, rfl, rfl, rfl, rfl, rfl⟩
theorem pk_rel : Pk_rel funs := ⟨rfl, rfl, rfl, rfl, rfl, rfl, rfl, rfl, rfl, rfl, rfl, rfl, rfl, rfl, rfl, rfl, rfl⟩
end Go.Proofs.Ytfhinaopoffcnaa
end
