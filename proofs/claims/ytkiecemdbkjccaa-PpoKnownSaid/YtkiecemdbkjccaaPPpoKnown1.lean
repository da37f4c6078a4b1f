/- What the functions compute that PpoKnown reaches, part 1; lemmas, no claim of its own. -/
import Derived.Test.YtkiecemdbkjccaaChecked
import Derived.KernelRfl
import Derived.Test.YtkiecemdbkjccaaGA
import Derived.Test.YtkiecemdbkjccaaGB
import Derived.Test.YtkiecemdbkjccaaGC
import Derived.Test.YtkiecemdbkjccaaGE
import Derived.Test.YtkiecemdbkjccaaGH
import Derived.Test.YtkiecemdbkjccaaGJ
import Derived.Test.YtkiecemdbkjccaaGK
import Derived.Test.YtkiecemdbkjccaaGL
section
/- The functions that are reached, asx resolved, held against the program (written by a program, tab.py). -/
set_option maxRecDepth 100000
set_option linter.unusedVariables false
namespace Go.Proofs.Ytkiecemdbkjccaa
open Go.Ab
def tab : List (Nat × Nat × AFun) := [(10, 13, A_xlaw00_Place),
 (11, 115, A_rel_New),
 (12, 31, A_rel_Rel_Plus),
 (13, 15, A_rel_Rel_Has),
 (14, 30, A_rel_Rel_Loops),
 (15, 24, A_rel_Rel_Pairs),
 (16, 139, A_rel_Rel_Maybe),
 (17, 131, A_rel_Rel_Len),
 (18, 119, A_rel_Rel_And),
 (22, 32, A_rel_Rel_In),
 (23, 48, A_rel_Rel_Then),
 (24, 49, A_rel_Rel_Or),
 (26, 82, A_rel_Rel_Less),
 (27, 127, A_xref01_New),
 (29, 128, A_xref01_R_Or),
 (30, 135, A_xref01_R_And),
 (31, 177, A_xref01_R_Less),
 (32, 124, A_xref01_R_Then),
 (33, 182, A_xref01_R_Back),
 (34, 151, A_xref01_R_Plus),
 (35, 143, A_xref01_R_Maybe),
 (36, 130, A_xref01_R_In),
 (39, 114, A_eco_Inner),
 (40, 96, A_eco_Outer),
 (41, 93, A_eco_Loc),
 (42, 162, A_eco_Eco),
 (44, 19, A_xlaw00_FewGraph),
 (45, 20, A_xref06_Check),
 (48, 97, A_eco_Rf),
 (49, 53, A_eco_Co),
 (50, 52, A_eco_Fr),
 (51, 117, A_rel_Rel_by),
 (52, 169, A_rel_Rel_And_1),
 (53, 118, A_rel_Rel_Or_1),
 (54, 156, A_rel_Rel_Less_1),
 (55, 132, A_xref01_SamePairs),
 (56, 133, A_xref01_R_Pairs),
 (57, 158, A_eco_some),
 (58, 167, A_eco_Inner_1),
 (59, 160, A_eco_Outer_1),
 (60, 28, A_graph_Po),
 (61, 159, A_eco_Loc_1),
 (63, 54, A_xref06_event),
 (64, 55, A_xref06_rf),
 (65, 56, A_xref06_co),
 (66, 57, A_xref06_rmw),
 (67, 58, A_xref06_deps),
 (69, 126, A_xref09_Rf),
 (70, 179, A_xref09_Co),
 (71, 178, A_xref09_Fr),
 (73, 142, A_xref09_Loc),
 (74, 125, A_xref09_Inner),
 (75, 148, A_xref09_Outer),
 (80, 120, A_eco_pairs),
 (81, 81, A_graph_Of),
 (82, 121, A_xref06_rising),
 (84, 147, A_xref06_Po),
 (85, 175, A_xref09_part),
 (92, 170, A_eco_pairs_1),
 (93, 171, A_eco_pairs_2),
 (94, 172, A_eco_pairs_3),
 (95, 173, A_eco_pairs_4),
 (96, 174, A_eco_pairs_5),
 (133, 3, A_xlaw19_PpoKnown),
 (135, 5, A_xlaw19_PpoAny),
 (143, 14, A_ppo_Ppo),
 (144, 16, A_xlaw19_awake),
 (145, 17, A_ppo_Rdw),
 (146, 18, A_ppo_Detour),
 (147, 21, A_xlaw19_all),
 (165, 44, A_ppo_Parts),
 (166, 45, A_graph_Set),
 (167, 46, A_ppo_isR),
 (168, 47, A_ppo_isW),
 (169, 50, A_xlaw19_after),
 (170, 51, A_ppo_by),
 (171, 59, A_xref19_Parts),
 (172, 60, A_xlaw19_same),
 (173, 61, A_xref19_Ppo),
 (174, 62, A_xref19_Rdw),
 (175, 63, A_xref19_Detour),
 (219, 112, A_ppo_isM),
 (220, 113, A_ppo_or),
 (221, 116, A_ppo_ploc),
 (222, 122, A_xref19_M),
 (223, 123, A_xref06_Of),
 (224, 129, A_xref19_Ploc),
 (225, 134, A_xref06_Kind),
 (226, 136, A_xref19_fre),
 (227, 137, A_xref19_rfe),
 (228, 138, A_xref19_coe),
 (231, 144, A_xref01_R_Star),
 (246, 168, A_ppo_ploc_1),
 (247, 176, A_xref19_Mine)]
def num (f : Nat) : Nat := ((tab.find? (fun r => r.1 == f)).map (·.2.1)).getD 0
def funs : Funs := fun f => (tab.find? (fun r => r.1 == f)).map (·.2.2)
theorem c10 : funB Try.prog num Try.f13 A_xlaw00_Place = true := by kernel_rfl
theorem c11 : funB Try.prog num Try.f115 A_rel_New = true := by kernel_rfl
theorem c12 : funB Try.prog num Try.f31 A_rel_Rel_Plus = true := by kernel_rfl
theorem c13 : funB Try.prog num Try.f15 A_rel_Rel_Has = true := by kernel_rfl
theorem c14 : funB Try.prog num Try.f30 A_rel_Rel_Loops = true := by kernel_rfl
theorem c15 : funB Try.prog num Try.f24 A_rel_Rel_Pairs = true := by kernel_rfl
theorem c16 : funB Try.prog num Try.f139 A_rel_Rel_Maybe = true := by kernel_rfl
theorem c17 : funB Try.prog num Try.f131 A_rel_Rel_Len = true := by kernel_rfl
theorem c18 : funB Try.prog num Try.f119 A_rel_Rel_And = true := by kernel_rfl
theorem c22 : funB Try.prog num Try.f32 A_rel_Rel_In = true := by kernel_rfl
theorem c23 : funB Try.prog num Try.f48 A_rel_Rel_Then = true := by kernel_rfl
theorem c24 : funB Try.prog num Try.f49 A_rel_Rel_Or = true := by kernel_rfl
theorem c26 : funB Try.prog num Try.f82 A_rel_Rel_Less = true := by kernel_rfl
theorem c27 : funB Try.prog num Try.f127 A_xref01_New = true := by kernel_rfl
theorem c29 : funB Try.prog num Try.f128 A_xref01_R_Or = true := by kernel_rfl
theorem c30 : funB Try.prog num Try.f135 A_xref01_R_And = true := by kernel_rfl
theorem c31 : funB Try.prog num Try.f177 A_xref01_R_Less = true := by kernel_rfl
theorem c32 : funB Try.prog num Try.f124 A_xref01_R_Then = true := by kernel_rfl
theorem c33 : funB Try.prog num Try.f182 A_xref01_R_Back = true := by kernel_rfl
theorem c34 : funB Try.prog num Try.f151 A_xref01_R_Plus = true := by kernel_rfl
theorem c35 : funB Try.prog num Try.f143 A_xref01_R_Maybe = true := by kernel_rfl
theorem c36 : funB Try.prog num Try.f130 A_xref01_R_In = true := by kernel_rfl
theorem c39 : funB Try.prog num Try.f114 A_eco_Inner = true := by kernel_rfl
theorem c40 : funB Try.prog num Try.f96 A_eco_Outer = true := by kernel_rfl
theorem c41 : funB Try.prog num Try.f93 A_eco_Loc = true := by kernel_rfl
theorem c42 : funB Try.prog num Try.f162 A_eco_Eco = true := by kernel_rfl
theorem c44 : funB Try.prog num Try.f19 A_xlaw00_FewGraph = true := by kernel_rfl
theorem c45 : funB Try.prog num Try.f20 A_xref06_Check = true := by kernel_rfl
theorem c48 : funB Try.prog num Try.f97 A_eco_Rf = true := by kernel_rfl
theorem c49 : funB Try.prog num Try.f53 A_eco_Co = true := by kernel_rfl
theorem c50 : funB Try.prog num Try.f52 A_eco_Fr = true := by kernel_rfl
theorem c51 : funB Try.prog num Try.f117 A_rel_Rel_by = true := by kernel_rfl
theorem c52 : funB Try.prog num Try.f169 A_rel_Rel_And_1 = true := by kernel_rfl
theorem c53 : funB Try.prog num Try.f118 A_rel_Rel_Or_1 = true := by kernel_rfl
theorem c54 : funB Try.prog num Try.f156 A_rel_Rel_Less_1 = true := by kernel_rfl
theorem c55 : funB Try.prog num Try.f132 A_xref01_SamePairs = true := by kernel_rfl
theorem c56 : funB Try.prog num Try.f133 A_xref01_R_Pairs = true := by kernel_rfl
theorem c57 : funB Try.prog num Try.f158 A_eco_some = true := by kernel_rfl
theorem c58 : funB Try.prog num Try.f167 A_eco_Inner_1 = true := by kernel_rfl
theorem c59 : funB Try.prog num Try.f160 A_eco_Outer_1 = true := by kernel_rfl
theorem c60 : funB Try.prog num Try.f28 A_graph_Po = true := by kernel_rfl
theorem c61 : funB Try.prog num Try.f159 A_eco_Loc_1 = true := by kernel_rfl
theorem c63 : funB Try.prog num Try.f54 A_xref06_event = true := by kernel_rfl
theorem c64 : funB Try.prog num Try.f55 A_xref06_rf = true := by kernel_rfl
theorem c65 : funB Try.prog num Try.f56 A_xref06_co = true := by kernel_rfl
theorem c66 : funB Try.prog num Try.f57 A_xref06_rmw = true := by kernel_rfl
theorem c67 : funB Try.prog num Try.f58 A_xref06_deps = true := by kernel_rfl
theorem c69 : funB Try.prog num Try.f126 A_xref09_Rf = true := by kernel_rfl
theorem c70 : funB Try.prog num Try.f179 A_xref09_Co = true := by kernel_rfl
theorem c71 : funB Try.prog num Try.f178 A_xref09_Fr = true := by kernel_rfl
theorem c73 : funB Try.prog num Try.f142 A_xref09_Loc = true := by kernel_rfl
theorem c74 : funB Try.prog num Try.f125 A_xref09_Inner = true := by kernel_rfl
theorem c75 : funB Try.prog num Try.f148 A_xref09_Outer = true := by kernel_rfl
theorem c80 : funB Try.prog num Try.f120 A_eco_pairs = true := by kernel_rfl
theorem c81 : funB Try.prog num Try.f81 A_graph_Of = true := by kernel_rfl
theorem c82 : funB Try.prog num Try.f121 A_xref06_rising = true := by kernel_rfl
theorem c84 : funB Try.prog num Try.f147 A_xref06_Po = true := by kernel_rfl
theorem c85 : funB Try.prog num Try.f175 A_xref09_part = true := by kernel_rfl
theorem c92 : funB Try.prog num Try.f170 A_eco_pairs_1 = true := by kernel_rfl
theorem c93 : funB Try.prog num Try.f171 A_eco_pairs_2 = true := by kernel_rfl
theorem c94 : funB Try.prog num Try.f172 A_eco_pairs_3 = true := by kernel_rfl
theorem c95 : funB Try.prog num Try.f173 A_eco_pairs_4 = true := by kernel_rfl
theorem c96 : funB Try.prog num Try.f174 A_eco_pairs_5 = true := by kernel_rfl
theorem c133 : funB Try.prog num Try.f3 A_xlaw19_PpoKnown = true := by kernel_rfl
theorem c135 : funB Try.prog num Try.f5 A_xlaw19_PpoAny = true := by kernel_rfl
theorem c143 : funB Try.prog num Try.f14 A_ppo_Ppo = true := by kernel_rfl
theorem c144 : funB Try.prog num Try.f16 A_xlaw19_awake = true := by kernel_rfl
theorem c145 : funB Try.prog num Try.f17 A_ppo_Rdw = true := by kernel_rfl
theorem c146 : funB Try.prog num Try.f18 A_ppo_Detour = true := by kernel_rfl
theorem c147 : funB Try.prog num Try.f21 A_xlaw19_all = true := by kernel_rfl
theorem c165 : funB Try.prog num Try.f44 A_ppo_Parts = true := by kernel_rfl
theorem c166 : funB Try.prog num Try.f45 A_graph_Set = true := by kernel_rfl
theorem c167 : funB Try.prog num Try.f46 A_ppo_isR = true := by kernel_rfl
theorem c168 : funB Try.prog num Try.f47 A_ppo_isW = true := by kernel_rfl
theorem c169 : funB Try.prog num Try.f50 A_xlaw19_after = true := by kernel_rfl
theorem c170 : funB Try.prog num Try.f51 A_ppo_by = true := by kernel_rfl
theorem c171 : funB Try.prog num Try.f59 A_xref19_Parts = true := by kernel_rfl
theorem c172 : funB Try.prog num Try.f60 A_xlaw19_same = true := by kernel_rfl
theorem c173 : funB Try.prog num Try.f61 A_xref19_Ppo = true := by kernel_rfl
theorem c174 : funB Try.prog num Try.f62 A_xref19_Rdw = true := by kernel_rfl
theorem c175 : funB Try.prog num Try.f63 A_xref19_Detour = true := by kernel_rfl
theorem c219 : funB Try.prog num Try.f112 A_ppo_isM = true := by kernel_rfl
theorem c220 : funB Try.prog num Try.f113 A_ppo_or = true := by kernel_rfl
theorem c221 : funB Try.prog num Try.f116 A_ppo_ploc = true := by kernel_rfl
theorem c222 : funB Try.prog num Try.f122 A_xref19_M = true := by kernel_rfl
theorem c223 : funB Try.prog num Try.f123 A_xref06_Of = true := by kernel_rfl
theorem c224 : funB Try.prog num Try.f129 A_xref19_Ploc = true := by kernel_rfl
theorem c225 : funB Try.prog num Try.f134 A_xref06_Kind = true := by kernel_rfl
theorem c226 : funB Try.prog num Try.f136 A_xref19_fre = true := by kernel_rfl
theorem c227 : funB Try.prog num Try.f137 A_xref19_rfe = true := by kernel_rfl
theorem c228 : funB Try.prog num Try.f138 A_xref19_coe = true := by kernel_rfl
theorem c231 : funB Try.prog num Try.f144 A_xref01_R_Star = true := by kernel_rfl
theorem c246 : funB Try.prog num Try.f168 A_ppo_ploc_1 = true := by kernel_rfl
theorem c247 : funB Try.prog num Try.f176 A_xref19_Mine = true := by kernel_rfl
def Good (r : Nat × Nat × AFun) : Prop := num r.1 = r.2.1 ∧ ∃ fn, Try.prog.funcs[r.2.1]? = some fn ∧ funB Try.prog num fn r.2.2 = true
theorem good : ∀ r ∈ tab, Good r := by
  intro r hr
  unfold tab at hr
  rcases List.mem_cons.1 hr with rfl | hr
  · exact ⟨by kernel_rfl, _, Try.func13, c10⟩
  rcases List.mem_cons.1 hr with rfl | hr
  · exact ⟨by kernel_rfl, _, Try.func115, c11⟩
  rcases List.mem_cons.1 hr with rfl | hr
  · exact ⟨by kernel_rfl, _, Try.func31, c12⟩
  rcases List.mem_cons.1 hr with rfl | hr
  · exact ⟨by kernel_rfl, _, Try.func15, c13⟩
  rcases List.mem_cons.1 hr with rfl | hr
  · exact ⟨by kernel_rfl, _, Try.func30, c14⟩
  rcases List.mem_cons.1 hr with rfl | hr
  · exact ⟨by kernel_rfl, _, Try.func24, c15⟩
  rcases List.mem_cons.1 hr with rfl | hr
  · exact ⟨by kernel_rfl, _, Try.func139, c16⟩
  rcases List.mem_cons.1 hr with rfl | hr
  · exact ⟨by kernel_rfl, _, Try.func131, c17⟩
  rcases List.mem_cons.1 hr with rfl | hr
  · exact ⟨by kernel_rfl, _, Try.func119, c18⟩
  rcases List.mem_cons.1 hr with rfl | hr
  · exact ⟨by kernel_rfl, _, Try.func32, c22⟩
  rcases List.mem_cons.1 hr with rfl | hr
  · exact ⟨by kernel_rfl, _, Try.func48, c23⟩
  rcases List.mem_cons.1 hr with rfl | hr
  · exact ⟨by kernel_rfl, _, Try.func49, c24⟩
  rcases List.mem_cons.1 hr with rfl | hr
  · exact ⟨by kernel_rfl, _, Try.func82, c26⟩
  rcases List.mem_cons.1 hr with rfl | hr
  · exact ⟨by kernel_rfl, _, Try.func127, c27⟩
  rcases List.mem_cons.1 hr with rfl | hr
  · exact ⟨by kernel_rfl, _, Try.func128, c29⟩
  rcases List.mem_cons.1 hr with rfl | hr
  · exact ⟨by kernel_rfl, _, Try.func135, c30⟩
  rcases List.mem_cons.1 hr with rfl | hr
  · exact ⟨by kernel_rfl, _, Try.func177, c31⟩
  rcases List.mem_cons.1 hr with rfl | hr
  · exact ⟨by kernel_rfl, _, Try.func124, c32⟩
  rcases List.mem_cons.1 hr with rfl | hr
  · exact ⟨by kernel_rfl, _, Try.func182, c33⟩
  rcases List.mem_cons.1 hr with rfl | hr
  · exact ⟨by kernel_rfl, _, Try.func151, c34⟩
  rcases List.mem_cons.1 hr with rfl | hr
  · exact ⟨by kernel_rfl, _, Try.func143, c35⟩
  rcases List.mem_cons.1 hr with rfl | hr
  · exact ⟨by kernel_rfl, _, Try.func130, c36⟩
  rcases List.mem_cons.1 hr with rfl | hr
  · exact ⟨by kernel_rfl, _, Try.func114, c39⟩
  rcases List.mem_cons.1 hr with rfl | hr
  · exact ⟨by kernel_rfl, _, Try.func96, c40⟩
  rcases List.mem_cons.1 hr with rfl | hr
  · exact ⟨by kernel_rfl, _, Try.func93, c41⟩
  rcases List.mem_cons.1 hr with rfl | hr
  · exact ⟨by kernel_rfl, _, Try.func162, c42⟩
  rcases List.mem_cons.1 hr with rfl | hr
  · exact ⟨by kernel_rfl, _, Try.func19, c44⟩
  rcases List.mem_cons.1 hr with rfl | hr
  · exact ⟨by kernel_rfl, _, Try.func20, c45⟩
  rcases List.mem_cons.1 hr with rfl | hr
  · exact ⟨by kernel_rfl, _, Try.func97, c48⟩
  rcases List.mem_cons.1 hr with rfl | hr
  · exact ⟨by kernel_rfl, _, Try.func53, c49⟩
  rcases List.mem_cons.1 hr with rfl | hr
  · exact ⟨by kernel_rfl, _, Try.func52, c50⟩
  rcases List.mem_cons.1 hr with rfl | hr
  · exact ⟨by kernel_rfl, _, Try.func117, c51⟩
  rcases List.mem_cons.1 hr with rfl | hr
  · exact ⟨by kernel_rfl, _, Try.func169, c52⟩
  rcases List.mem_cons.1 hr with rfl | hr
  · exact ⟨by kernel_rfl, _, Try.func118, c53⟩
  rcases List.mem_cons.1 hr with rfl | hr
  · exact ⟨by kernel_rfl, _, Try.func156, c54⟩
  rcases List.mem_cons.1 hr with rfl | hr
  · exact ⟨by kernel_rfl, _, Try.func132, c55⟩
  rcases List.mem_cons.1 hr with rfl | hr
  · exact ⟨by kernel_rfl, _, Try.func133, c56⟩
  rcases List.mem_cons.1 hr with rfl | hr
  · exact ⟨by kernel_rfl, _, Try.func158, c57⟩
  rcases List.mem_cons.1 hr with rfl | hr
  · exact ⟨by kernel_rfl, _, Try.func167, c58⟩
  rcases List.mem_cons.1 hr with rfl | hr
  · exact ⟨by kernel_rfl, _, Try.func160, c59⟩
  rcases List.mem_cons.1 hr with rfl | hr
  · exact ⟨by kernel_rfl, _, Try.func28, c60⟩
  rcases List.mem_cons.1 hr with rfl | hr
  · exact ⟨by kernel_rfl, _, Try.func159, c61⟩
  rcases List.mem_cons.1 hr with rfl | hr
  · exact ⟨by kernel_rfl, _, Try.func54, c63⟩
  rcases List.mem_cons.1 hr with rfl | hr
  · exact ⟨by kernel_rfl, _, Try.func55, c64⟩
  rcases List.mem_cons.1 hr with rfl | hr
  · exact ⟨by kernel_rfl, _, Try.func56, c65⟩
  rcases List.mem_cons.1 hr with rfl | hr
  · exact ⟨by kernel_rfl, _, Try.func57, c66⟩
  rcases List.mem_cons.1 hr with rfl | hr
  · exact ⟨by kernel_rfl, _, Try.func58, c67⟩
  rcases List.mem_cons.1 hr with rfl | hr
  · exact ⟨by kernel_rfl, _, Try.func126, c69⟩
  rcases List.mem_cons.1 hr with rfl | hr
  · exact ⟨by kernel_rfl, _, Try.func179, c70⟩
  rcases List.mem_cons.1 hr with rfl | hr
  · exact ⟨by kernel_rfl, _, Try.func178, c71⟩
  rcases List.mem_cons.1 hr with rfl | hr
  · exact ⟨by kernel_rfl, _, Try.func142, c73⟩
  rcases List.mem_cons.1 hr with rfl | hr
  · exact ⟨by kernel_rfl, _, Try.func125, c74⟩
  rcases List.mem_cons.1 hr with rfl | hr
  · exact ⟨by kernel_rfl, _, Try.func148, c75⟩
  rcases List.mem_cons.1 hr with rfl | hr
  · exact ⟨by kernel_rfl, _, Try.func120, c80⟩
  rcases List.mem_cons.1 hr with rfl | hr
  · exact ⟨by kernel_rfl, _, Try.func81, c81⟩
  rcases List.mem_cons.1 hr with rfl | hr
  · exact ⟨by kernel_rfl, _, Try.func121, c82⟩
  rcases List.mem_cons.1 hr with rfl | hr
  · exact ⟨by kernel_rfl, _, Try.func147, c84⟩
  rcases List.mem_cons.1 hr with rfl | hr
  · exact ⟨by kernel_rfl, _, Try.func175, c85⟩
  rcases List.mem_cons.1 hr with rfl | hr
  · exact ⟨by kernel_rfl, _, Try.func170, c92⟩
  rcases List.mem_cons.1 hr with rfl | hr
  · exact ⟨by kernel_rfl, _, Try.func171, c93⟩
  rcases List.mem_cons.1 hr with rfl | hr
  · exact ⟨by kernel_rfl, _, Try.func172, c94⟩
  rcases List.mem_cons.1 hr with rfl | hr
  · exact ⟨by kernel_rfl, _, Try.func173, c95⟩
  rcases List.mem_cons.1 hr with rfl | hr
  · exact ⟨by kernel_rfl, _, Try.func174, c96⟩
  rcases List.mem_cons.1 hr with rfl | hr
  · exact ⟨by kernel_rfl, _, Try.func3, c133⟩
  rcases List.mem_cons.1 hr with rfl | hr
  · exact ⟨by kernel_rfl, _, Try.func5, c135⟩
  rcases List.mem_cons.1 hr with rfl | hr
  · exact ⟨by kernel_rfl, _, Try.func14, c143⟩
  rcases List.mem_cons.1 hr with rfl | hr
  · exact ⟨by kernel_rfl, _, Try.func16, c144⟩
  rcases List.mem_cons.1 hr with rfl | hr
  · exact ⟨by kernel_rfl, _, Try.func17, c145⟩
  rcases List.mem_cons.1 hr with rfl | hr
  · exact ⟨by kernel_rfl, _, Try.func18, c146⟩
  rcases List.mem_cons.1 hr with rfl | hr
  · exact ⟨by kernel_rfl, _, Try.func21, c147⟩
  rcases List.mem_cons.1 hr with rfl | hr
  · exact ⟨by kernel_rfl, _, Try.func44, c165⟩
  rcases List.mem_cons.1 hr with rfl | hr
  · exact ⟨by kernel_rfl, _, Try.func45, c166⟩
  rcases List.mem_cons.1 hr with rfl | hr
  · exact ⟨by kernel_rfl, _, Try.func46, c167⟩
  rcases List.mem_cons.1 hr with rfl | hr
  · exact ⟨by kernel_rfl, _, Try.func47, c168⟩
  rcases List.mem_cons.1 hr with rfl | hr
  · exact ⟨by kernel_rfl, _, Try.func50, c169⟩
  rcases List.mem_cons.1 hr with rfl | hr
  · exact ⟨by kernel_rfl, _, Try.func51, c170⟩
  rcases List.mem_cons.1 hr with rfl | hr
  · exact ⟨by kernel_rfl, _, Try.func59, c171⟩
  rcases List.mem_cons.1 hr with rfl | hr
  · exact ⟨by kernel_rfl, _, Try.func60, c172⟩
  rcases List.mem_cons.1 hr with rfl | hr
  · exact ⟨by kernel_rfl, _, Try.func61, c173⟩
  rcases List.mem_cons.1 hr with rfl | hr
  · exact ⟨by kernel_rfl, _, Try.func62, c174⟩
  rcases List.mem_cons.1 hr with rfl | hr
  · exact ⟨by kernel_rfl, _, Try.func63, c175⟩
  rcases List.mem_cons.1 hr with rfl | hr
  · exact ⟨by kernel_rfl, _, Try.func112, c219⟩
  rcases List.mem_cons.1 hr with rfl | hr
  · exact ⟨by kernel_rfl, _, Try.func113, c220⟩
  rcases List.mem_cons.1 hr with rfl | hr
  · exact ⟨by kernel_rfl, _, Try.func116, c221⟩
  rcases List.mem_cons.1 hr with rfl | hr
  · exact ⟨by kernel_rfl, _, Try.func122, c222⟩
  rcases List.mem_cons.1 hr with rfl | hr
  · exact ⟨by kernel_rfl, _, Try.func123, c223⟩
  rcases List.mem_cons.1 hr with rfl | hr
  · exact ⟨by kernel_rfl, _, Try.func129, c224⟩
  rcases List.mem_cons.1 hr with rfl | hr
  · exact ⟨by kernel_rfl, _, Try.func134, c225⟩
  rcases List.mem_cons.1 hr with rfl | hr
  · exact ⟨by kernel_rfl, _, Try.func136, c226⟩
  rcases List.mem_cons.1 hr with rfl | hr
  · exact ⟨by kernel_rfl, _, Try.func137, c227⟩
  rcases List.mem_cons.1 hr with rfl | hr
  · exact ⟨by kernel_rfl, _, Try.func138, c228⟩
  rcases List.mem_cons.1 hr with rfl | hr
  · exact ⟨by kernel_rfl, _, Try.func144, c231⟩
  rcases List.mem_cons.1 hr with rfl | hr
  · exact ⟨by kernel_rfl, _, Try.func168, c246⟩
  rcases List.mem_cons.1 hr with rfl | hr
  · exact ⟨by kernel_rfl, _, Try.func176, c247⟩
  cases hr
theorem table : Table Try.prog num funs := by
  intro f A h
  unfold funs at h
  cases hf : tab.find? (fun r => r.1 == f) with
  | none => rw [hf] at h; cases h
  | some r =>
    rw [hf] at h; cases h
    have h1 := List.find?_some hf
    simp only [beq_iff_eq] at h1
    subst h1
    obtain ⟨h2, h3⟩ := good r (List.mem_of_find?_eq_some hf)
    rw [h2]; exact h3
theorem pk_eco : Pk_eco funs := ⟨rfl, rfl, rfl, rfl, rfl, rfl, rfl, rfl, rfl, rfl, rfl, rfl, rfl, rfl, rfl, rfl, rfl⟩
theorem pk_xref01 : Pk_xref01 funs := ⟨rfl, rfl, rfl, rfl, rfl, rfl, rfl, rfl, rfl, rfl, rfl⟩
theorem pk_xref06 : Pk_xref06 funs := ⟨rfl, rfl, rfl, rfl, rfl, rfl, rfl, rfl⟩
theorem pk_xref09 : Pk_xref09 funs := ⟨rfl, rfl, rfl, rfl, rfl, rfl, rfl⟩
theorem pk_xref19 : Pk_xref19 funs := ⟨rfl, rfl, rfl, rfl, rfl, rfl, rfl, rfl, rfl, rfl⟩
theorem pk_ppo : Pk_ppo funs := ⟨rfl, rfl, rfl, rfl, rfl, rfl, rfl, rfl, rfl, rfl, rfl⟩
theorem pk_rel : Pk_rel funs := ⟨rfl, rfl, rfl, rfl, rfl, rfl, rfl, rfl, rfl, rfl, rfl, rfl, rfl, rfl, rfl, rfl⟩
end Go.Proofs.Ytkiecemdbkjccaa
end
section
/- exegesislaw19: PpoKnown, PpoFirst. -/
set_option linter.unusedVariables false
set_option linter.unusedSimpArgs false
namespace Go.Ab
variable {F : Funs}
theorem W_lckM {t : Nat} {c : ACode} {e : Env} {g : G} {Q : Out → Env → G → Prop} (M : Env → G → Prop) (h0 : M e g) (h : ∀ e g, M e g → W F (.lck t c) e g Q) : W F (.lck t c) e g Q := h e g h0
theorem W_thenM {a b : ACode} {e : Env} {g : G} {Q : Out → Env → G → Prop} : W F (.seq a b) e g Q = W F a e g (thenQ F b Q) := W_seq
def pkP (b : Bool) : List (Int × Int) := if b then [(2, 3)] else []
def pkG (w : Bool) (k : Int) : Gr := ⟨2, [⟨0, 2, 0, 0, 0, false⟩, ⟨0, 2, 0, 1, 0, false⟩, ⟨1, 1, 0, 0, 0, false⟩, ⟨1, if w then 2 else 1, 0, 1, 0, false⟩], [-1, -1, 0, if w then -1 else 1], [[0], if w then [1, 3] else [1]], [], pkP (k == 1), pkP (k == 2 || k == 3), pkP (k == 3)⟩
def pkC (w : Bool) (k : Int) (t : Tok) : List AV := [.i .i64 2, .sl (evsC (pkG w k).evs) 4 t, .ms 11 0 4, .ms 14 0 2, .sl [] 0 .rig, .sl (pairsC (pkG w k).data) (pkG w k).data.length .rig, .sl (pairsC (pkG w k).ctrl) (pkG w k).ctrl.length .rig, .sl (pairsC (pkG w k).ctrli) (pkG w k).ctrli.length .rig]
def pkCo (w : Bool) : List AV := [.sl [.i .i64 0] 1 .rig, if w then .sl [.i .i64 1, .i .i64 3] 2 .rig else .sl [.i .i64 1] 1 .rig]
theorem pk_has : (([true, false].all fun w => [0, 1, 2, 3].all fun (k : Int) => has (nOf (pkG w k)) (ppoR (pkG w k)) 2 3 == (k == 1 || (k == 3 || (k == 2 && w))))) = true := by decide +kernel
theorem pk_few (w : Bool) (k : Int) : Few (pkG w k) := by
  refine ⟨by simp [pkG], by simp [pkG], ?_⟩
  intro x hx
  simp only [pkG, List.mem_cons, List.not_mem_nil, or_false] at hx
  rcases hx with rfl | rfl
  · decide
  · split <;> decide
theorem pkP_len (b : Bool) : (pkP b).length ≤ 1000 := by unfold pkP; split <;> simp
def PkSt (w : Bool) (k : Int) (e : Env) (g : G) : Prop := ∃ t, e 0 = .b w ∧ e 5 = .i .i64 k ∧ e 7 = .mp 16 0 ∧ g.hp 16 = some (.cells (pkC w k t) false) ∧ g.hp 11 = some (.cells (intsC (pkG w k).rf) false) ∧ g.hp 14 = some (.cells (pkCo w) false) ∧ 16 < g.nx
theorem frz_pk (hp : Nat → Option Blk) (w k t) (b1 b2 : Bool) (h11 : hp 11 = some (.cells (intsC (pkG w k).rf) b1)) (h14 : hp 14 = some (.cells (pkCo w) b2)) : frz hp depth (.agg (pkC w k t)) = some (.agg (grC (pkG w k))) := by
  refine frz_d_agg ?_
  show frzL hp (7 + 1) _ = _
  have e1 : frzL hp 7 (intsC (pkG w k).rf) = some (intsC (pkG w k).rf) := frzL_flat (d := 6) (by cases w <;> rfl)
  have e2 : frzL hp 7 (pkCo w) = some (coC (pkG w k).co) := by
    cases w <;> simp only [pkCo, frzL, frz, if_true, Bool.false_eq_true, if_false] <;> rfl
  simp only [pkC, frzL, frz, h11, h14, List.drop_zero, e1, e2, Option.map_some]
  rfl
theorem vis_pk (hp : Nat → Option Blk) (w k t) (h11 : hp 11 = some (.cells (intsC (pkG w k).rf) true)) (h14 : hp 14 = some (.cells (pkCo w) true)) : vis hp depth (.agg (pkC w k t)) = [] := by
  have e1 : (intsC (pkG w k).rf).flatMap (vis hp 7) = [] := by
    rw [List.flatMap_eq_nil_iff]
    intro v hv
    have hfl : (intsC (pkG w k).rf).all flat = true := by cases w <;> rfl
    exact vis_flat (d := 6) (List.all_eq_true.1 hfl v hv)
  have e2 : (pkCo w).flatMap (vis hp 7) = [] := by
    rw [List.flatMap_eq_nil_iff]
    intro v hv
    cases w <;> simp only [pkCo, if_true, Bool.false_eq_true, if_false, List.mem_cons, List.not_mem_nil, or_false] at hv <;> rcases hv with rfl | rfl <;> rfl
  have m1 : vis hp 8 (.ms 11 0 4) = [] := by
    have : vis hp 8 (.ms 11 0 4) = (match hp 11 with | some (.cells cs ro) => (if ro then [] else [11]) ++ (cs.drop 0).flatMap (vis hp 7) | _ => [11]) := rfl
    rw [this, h11]; simpa using e1
  have m2 : vis hp 8 (.ms 14 0 2) = [] := by
    have : vis hp 8 (.ms 14 0 2) = (match hp 14 with | some (.cells cs ro) => (if ro then [] else [14]) ++ (cs.drop 0).flatMap (vis hp 7) | _ => [14]) := rfl
    rw [this, h14]; simpa using e2
  have m3 : ∀ cs n t, vis hp 8 (.sl cs n t) = [] := fun _ _ _ => rfl
  have m4 : ∀ k n, vis hp 8 (.i k n) = [] := fun _ _ => rfl
  have : vis hp depth (.agg (pkC w k t)) = (pkC w k t).flatMap (vis hp 8) := rfl
  rw [this]
  simp only [pkC, List.flatMap_cons, List.flatMap_nil, m1, m2, m3, m4, List.append_nil]
set_option maxRecDepth 100000 in
set_option maxHeartbeats 16000000 in
theorem sp_ppoKnown {f : Nat} (hf : F f = some A_xlaw19_PpoKnown) (h10 : F 10 = some A_xlaw00_Place) (h144 : F 144 = some A_xlaw19_awake) (h169 : F 169 = some A_xlaw19_after) (S : PpoF F) (w : Bool) (how : Int) : pureS F f [.b w, .i .i64 how] = some (.b true) := by
  refine pure_of hf ?_
  have aw := sp_awake19 h144 h169 S
  have hp1 := sp_place h10 (v := how) (n := 4) (by omega) (by omega)
  obtain ⟨q0, q1⟩ := place_lt (v := how) (n := 4) (by omega)
  generalize place how 4 = k at hp1 q0 q1
  have r5 : ∀ x : AV, List.replicate 5 x = [x, x, x, x, x] := fun _ => rfl
  have r4 : ∀ x : AV, List.replicate 4 x = [x, x, x, x] := fun _ => rfl
  have r7 : ∀ x : AV, List.replicate 7 x = [x, x, x, x, x, x, x] := fun _ => rfl
  have s8 : ∀ a1 a2 a3 a4 a5 a6 a7 a8 c1 c2 c3 c4 c5 c6 c7 c8 : AV, splice [a1, a2, a3, a4, a5, a6, a7, a8] 0 [c1, c2, c3, c4, c5, c6, c7, c8] = [c1, c2, c3, c4, c5, c6, c7, c8] := fun _ _ _ _ _ _ _ _ _ _ _ _ _ _ _ _ => rfl
  have p6 : ∀ a1 a2 a3 a4 a5 a6 : AV, part [a1, a2, a3, a4, a5, a6] 0 (some 6) = some (.agg [a1, a2, a3, a4, a5, a6]) := fun _ _ _ _ _ _ => rfl
  have t3 : Int.toNat 3 = 3 := rfl
  have t1 : Int.toNat 1 = 1 := rfl
  have z10 : ((1 : Int) == 0) = false := rfl
  have z01 : ((0 : Int) == 1) = false := rfl
  have z02 : ((0 : Int) == 2) = false := rfl
  have z03 : ((0 : Int) == 3) = false := rfl
  have z21 : ((2 : Int) == 1) = false := rfl
  have z23 : ((2 : Int) == 3) = false := rfl
  have z31 : ((3 : Int) == 1) = false := rfl
  have z32 : ((3 : Int) == 2) = false := rfl
  have z13 : ((1 : Int) == 3) = false := rfl
  have z12 : ((1 : Int) == 2) = false := rfl
  have fin : ∀ e g, PkSt w k e g → W F (.lck 7 (.reg false [{ dst := some 53, op := .ld (some 8) (.t 7) },
  { dst := some 54, op := .call .pure (.c (.fn 143 [] [])) [.t 53] },
  { dst := some 55, op := .call .pure (.c (.fn 13 [] [])) [.t 54, .c (.i .i64 2), .c (.i .i64 3)] },
  { dst := some 56, op := .mv (.t 5) },
  { dst := some 57, op := .bin .eql (.t 56) (.c (.i .i64 1)) },
  { dst := some 58, op := .mv (.t 57) },
  { dst := some 59, op := .mv (.t 5), grd := some (58, false) },
  { dst := some 60, op := .bin .eql (.t 59) (.c (.i .i64 3)), grd := some (58, false) },
  { dst := some 61, op := .pick (.t 58) (.c (.b true)) (.t 60) },
  { dst := some 62, op := .mv (.t 61) },
  { dst := some 63, op := .mv (.t 5), grd := some (62, false) },
  { dst := some 64, op := .bin .eql (.t 63) (.c (.i .i64 2)), grd := some (62, false) },
  { dst := some 65, op := .mv (.t 64), grd := some (62, false) },
  { dst := some 66, op := .mv (.t 0), grd := some (65, true) },
  { dst := some 67, op := .pick (.t 65) (.t 66) (.c (.b false)), grd := some (62, false) },
  { dst := some 68, op := .pick (.t 62) (.c (.b true)) (.t 67) },
  { dst := some 69, op := .eqb false (.t 55) (.t 68) },
  { dst := some 70, op := .mv (.t 69) },
  { dst := some 71, op := .call .pure (.c (.fn 144 [] [])) [], grd := some (70, true) },
  { dst := some 72, op := .pick (.t 70) (.t 71) (.c (.b false)) },
  { dst := some 4, op := .mv (.t 72) }])) e g (thenQ F .ret (retQ [.t 4] (.b true))) := by
    rintro e g ⟨t, e0, e5, e7, hg, h11, h14, hnx⟩
    rw [W_lck]
    have l16 : (lckG g (e 7)).hp 16 = some (.cells (pkC w k t) true) := lck_hit hg (fun _ => by
      rw [e7]; show 16 ∈ vis g.hp (8 + 1) _
      simp only [vis, hg]; simp)
    have l11 : (lckG g (e 7)).hp 11 = some (.cells (intsC (pkG w k).rf) true) := lck_hit h11 (fun _ => by
      rw [e7]; show 11 ∈ vis g.hp (8 + 1) _
      simp only [vis, hg, pkC, List.drop_zero, List.flatMap_cons, h11]; simp)
    have l14 : (lckG g (e 7)).hp 14 = some (.cells (pkCo w) true) := lck_hit h14 (fun _ => by
      rw [e7]; show 14 ∈ vis g.hp (8 + 1) _
      simp only [vis, hg, pkC, List.drop_zero, List.flatMap_cons, h14]; simp)
    generalize lckG g (e 7) = g2 at l16 l11 l14
    have hfr : ∀ n b p, frz (rd ⟨g2.hp, n⟩ (allow false b p)) depth (.agg (pkC w k t)) = some (.agg (grC (pkG w k))) := fun n b p => frz_pk _ w k t true true (by rw [rd_ok rfl]; exact l11) (by rw [rd_ok rfl]; exact l14)
    have hvi : ∀ n b p, vis (rd ⟨g2.hp, n⟩ (allow false b p)) depth (.agg (pkC w k t)) = [] := fun n b p => vis_pk _ w k t (by rw [rd_ok rfl]; exact l11) (by rw [rd_ok rfl]; exact l14)
    have hga : part (pkC w k t) 0 (some 8) = some (.agg (pkC w k t)) := rfl
    have hn := nOf_le (pkG w k)
    have hpp := sp_ppo S (pk_few w k) (pkP_len _) (pkP_len _) (pkP_len _)
    have hh := pk_has
    generalize hC : pkC w k t = C at l16 hfr hvi hga
    have hk : k = 0 ∨ k = 1 ∨ k = 2 ∨ k = 3 := by omega
    rcases hk with rfl | rfl | rfl | rfl <;> cases w
    all_goals simp only [List.all_cons, List.all_nil, Bool.and_true, Bool.and_eq_true, beq_iff_eq] at hh
    · have h9 : has (nOf (pkG false 0)) (ppoR (pkG false 0)) 2 3 = false := by rw [hh.2.1]; rfl
      simp (disch := omega) only [wp, Nat.reduceAdd, Nat.reduceMul, Nat.reduceSub, gl, e0, e5, e7, l16, hga, hfr, hvi, hpp, sp_has S.pr hn, h9, z01, z02, z03, aw]
    · have h9 : has (nOf (pkG true 0)) (ppoR (pkG true 0)) 2 3 = false := by rw [hh.1.1]; rfl
      simp (disch := omega) only [wp, Nat.reduceAdd, Nat.reduceMul, Nat.reduceSub, gl, e0, e5, e7, l16, hga, hfr, hvi, hpp, sp_has S.pr hn, h9, z01, z02, z03, aw]
    · have h9 : has (nOf (pkG false 1)) (ppoR (pkG false 1)) 2 3 = true := by rw [hh.2.2.1]; rfl
      simp (disch := omega) only [wp, Nat.reduceAdd, Nat.reduceMul, Nat.reduceSub, gl, e0, e5, e7, l16, hga, hfr, hvi, hpp, sp_has S.pr hn, h9, aw]
    · have h9 : has (nOf (pkG true 1)) (ppoR (pkG true 1)) 2 3 = true := by rw [hh.1.2.1]; rfl
      simp (disch := omega) only [wp, Nat.reduceAdd, Nat.reduceMul, Nat.reduceSub, gl, e0, e5, e7, l16, hga, hfr, hvi, hpp, sp_has S.pr hn, h9, aw]
    · have h9 : has (nOf (pkG false 2)) (ppoR (pkG false 2)) 2 3 = false := by rw [hh.2.2.2.1]; rfl
      simp (disch := omega) only [wp, Nat.reduceAdd, Nat.reduceMul, Nat.reduceSub, gl, e0, e5, e7, l16, hga, hfr, hvi, hpp, sp_has S.pr hn, h9, z21, z23, aw]
    · have h9 : has (nOf (pkG true 2)) (ppoR (pkG true 2)) 2 3 = true := by rw [hh.1.2.2.1]; rfl
      simp (disch := omega) only [wp, Nat.reduceAdd, Nat.reduceMul, Nat.reduceSub, gl, e0, e5, e7, l16, hga, hfr, hvi, hpp, sp_has S.pr hn, h9, z21, z23, aw]
    · have h9 : has (nOf (pkG false 3)) (ppoR (pkG false 3)) 2 3 = true := by rw [hh.2.2.2.2]; rfl
      simp (disch := omega) only [wp, Nat.reduceAdd, Nat.reduceMul, Nat.reduceSub, gl, e0, e5, e7, l16, hga, hfr, hvi, hpp, sp_has S.pr hn, h9, z31, aw]
    · have h9 : has (nOf (pkG true 3)) (ppoR (pkG true 3)) 2 3 = true := by rw [hh.1.2.2.2]; rfl
      simp (disch := omega) only [wp, Nat.reduceAdd, Nat.reduceMul, Nat.reduceSub, gl, e0, e5, e7, l16, hga, hfr, hvi, hpp, sp_has S.pr hn, h9, z31, aw]
  have hk : k = 0 ∨ k = 1 ∨ k = 2 ∨ k = 3 := by omega
  rcases hk with rfl | rfl | rfl | rfl <;> cases w
  all_goals
    simp (disch := omega) only [A_xlaw19_PpoKnown, wp, Nat.reduceAdd, Nat.reduceMul, Nat.reduceSub, gl, hp1, r5, r4, r7, s8, p6, splice_s, splice_6, List.length_set, t3, t1, z10, z01, z02, z03, z21, z23, z31, z32, z13, z12]
    refine fin _ _ ?_
    first
      | (refine ⟨.own 23 6, ?_⟩
         simp (disch := omega) only [wp, Nat.reduceAdd, Nat.reduceMul, Nat.reduceSub]
         exact ⟨by rfl, by rfl, by rfl, by first | omega | (dsimp only; omega)⟩)
      | (refine ⟨.own 34 6, ?_⟩
         simp (disch := omega) only [wp, Nat.reduceAdd, Nat.reduceMul, Nat.reduceSub]
         exact ⟨by rfl, by rfl, by rfl, by first | omega | (dsimp only; omega)⟩)
end Go.Ab
end
