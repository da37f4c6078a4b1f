/- What the functions compute that PpoAny reaches, part 1; lemmas, no claim of its own. -/
import Derived.Test.YtkiecemdbkjccaaChecked
import Derived.KernelRfl
import Derived.Test.YtkiecemdbkjccaaGA
import Derived.Test.YtkiecemdbkjccaaGB
import Derived.Test.YtkiecemdbkjccaaGC
import Derived.Test.YtkiecemdbkjccaaGE
import Derived.Test.YtkiecemdbkjccaaGH
import Derived.Test.YtkiecemdbkjccaaGJ
import Derived.Test.YtkiecemdbkjccaaGK
import Derived.Test.YtkiecemdbkjccaaGL
section
/- The functions that are reached, asx resolved, held against the program (written by a program, tab.py). -/
set_option maxRecDepth 100000
set_option linter.unusedVariables false
namespace Go.Proofs.Ytkiecemdbkjccaa
open Go.Ab
def tab : List (Nat × Nat × AFun) := [(10, 13, A_xlaw00_Place),
 (11, 115, A_rel_New),
 (12, 31, A_rel_Rel_Plus),
 (13, 15, A_rel_Rel_Has),
 (14, 30, A_rel_Rel_Loops),
 (15, 24, A_rel_Rel_Pairs),
 (16, 139, A_rel_Rel_Maybe),
 (17, 131, A_rel_Rel_Len),
 (18, 119, A_rel_Rel_And),
 (22, 32, A_rel_Rel_In),
 (23, 48, A_rel_Rel_Then),
 (24, 49, A_rel_Rel_Or),
 (26, 82, A_rel_Rel_Less),
 (27, 127, A_xref01_New),
 (29, 128, A_xref01_R_Or),
 (30, 135, A_xref01_R_And),
 (31, 177, A_xref01_R_Less),
 (32, 124, A_xref01_R_Then),
 (33, 182, A_xref01_R_Back),
 (34, 151, A_xref01_R_Plus),
 (35, 143, A_xref01_R_Maybe),
 (36, 130, A_xref01_R_In),
 (39, 114, A_eco_Inner),
 (40, 96, A_eco_Outer),
 (41, 93, A_eco_Loc),
 (42, 162, A_eco_Eco),
 (44, 19, A_xlaw00_FewGraph),
 (45, 20, A_xref06_Check),
 (48, 97, A_eco_Rf),
 (49, 53, A_eco_Co),
 (50, 52, A_eco_Fr),
 (51, 117, A_rel_Rel_by),
 (52, 169, A_rel_Rel_And_1),
 (53, 118, A_rel_Rel_Or_1),
 (54, 156, A_rel_Rel_Less_1),
 (55, 132, A_xref01_SamePairs),
 (56, 133, A_xref01_R_Pairs),
 (57, 158, A_eco_some),
 (58, 167, A_eco_Inner_1),
 (59, 160, A_eco_Outer_1),
 (60, 28, A_graph_Po),
 (61, 159, A_eco_Loc_1),
 (63, 54, A_xref06_event),
 (64, 55, A_xref06_rf),
 (65, 56, A_xref06_co),
 (66, 57, A_xref06_rmw),
 (67, 58, A_xref06_deps),
 (69, 126, A_xref09_Rf),
 (70, 179, A_xref09_Co),
 (71, 178, A_xref09_Fr),
 (73, 142, A_xref09_Loc),
 (74, 125, A_xref09_Inner),
 (75, 148, A_xref09_Outer),
 (80, 120, A_eco_pairs),
 (81, 81, A_graph_Of),
 (82, 121, A_xref06_rising),
 (84, 147, A_xref06_Po),
 (85, 175, A_xref09_part),
 (92, 170, A_eco_pairs_1),
 (93, 171, A_eco_pairs_2),
 (94, 172, A_eco_pairs_3),
 (95, 173, A_eco_pairs_4),
 (96, 174, A_eco_pairs_5),
 (133, 3, A_xlaw19_PpoKnown),
 (135, 5, A_xlaw19_PpoAny),
 (143, 14, A_ppo_Ppo),
 (144, 16, A_xlaw19_awake),
 (145, 17, A_ppo_Rdw),
 (146, 18, A_ppo_Detour),
 (147, 21, A_xlaw19_all),
 (165, 44, A_ppo_Parts),
 (166, 45, A_graph_Set),
 (167, 46, A_ppo_isR),
 (168, 47, A_ppo_isW),
 (169, 50, A_xlaw19_after),
 (170, 51, A_ppo_by),
 (171, 59, A_xref19_Parts),
 (172, 60, A_xlaw19_same),
 (173, 61, A_xref19_Ppo),
 (174, 62, A_xref19_Rdw),
 (175, 63, A_xref19_Detour),
 (219, 112, A_ppo_isM),
 (220, 113, A_ppo_or),
 (221, 116, A_ppo_ploc),
 (222, 122, A_xref19_M),
 (223, 123, A_xref06_Of),
 (224, 129, A_xref19_Ploc),
 (225, 134, A_xref06_Kind),
 (226, 136, A_xref19_fre),
 (227, 137, A_xref19_rfe),
 (228, 138, A_xref19_coe),
 (231, 144, A_xref01_R_Star),
 (246, 168, A_ppo_ploc_1),
 (247, 176, A_xref19_Mine)]
def num (f : Nat) : Nat := ((tab.find? (fun r => r.1 == f)).map (·.2.1)).getD 0
def funs : Funs := fun f => (tab.find? (fun r => r.1 == f)).map (·.2.2)
theorem c10 : funB Try.prog num Try.f13 A_xlaw00_Place = true := by kernel_rfl
theorem c11 : funB Try.prog num Try.f115 A_rel_New = true := by kernel_rfl
theorem c12 : funB Try.prog num Try.f31 A_rel_Rel_Plus = true := by kernel_rfl
theorem c13 : funB Try.prog num Try.f15 A_rel_Rel_Has = true := by kernel_rfl
theorem c14 : funB Try.prog num Try.f30 A_rel_Rel_Loops = true := by kernel_rfl
theorem c15 : funB Try.prog num Try.f24 A_rel_Rel_Pairs = true := by kernel_rfl
theorem c16 : funB Try.prog num Try.f139 A_rel_Rel_Maybe = true := by kernel_rfl
theorem c17 : funB Try.prog num Try.f131 A_rel_Rel_Len = true := by kernel_rfl
theorem c18 : funB Try.prog num Try.f119 A_rel_Rel_And = true := by kernel_rfl
theorem c22 : funB Try.prog num Try.f32 A_rel_Rel_In = true := by kernel_rfl
theorem c23 : funB Try.prog num Try.f48 A_rel_Rel_Then = true := by kernel_rfl
theorem c24 : funB Try.prog num Try.f49 A_rel_Rel_Or = true := by kernel_rfl
theorem c26 : funB Try.prog num Try.f82 A_rel_Rel_Less = true := by kernel_rfl
theorem c27 : funB Try.prog num Try.f127 A_xref01_New = true := by kernel_rfl
theorem c29 : funB Try.prog num Try.f128 A_xref01_R_Or = true := by kernel_rfl
theorem c30 : funB Try.prog num Try.f135 A_xref01_R_And = true := by kernel_rfl
theorem c31 : funB Try.prog num Try.f177 A_xref01_R_Less = true := by kernel_rfl
theorem c32 : funB Try.prog num Try.f124 A_xref01_R_Then = true := by kernel_rfl
theorem c33 : funB Try.prog num Try.f182 A_xref01_R_Back = true := by kernel_rfl
theorem c34 : funB Try.prog num Try.f151 A_xref01_R_Plus = true := by kernel_rfl
theorem c35 : funB Try.prog num Try.f143 A_xref01_R_Maybe = true := by kernel_rfl
theorem c36 : funB Try.prog num Try.f130 A_xref01_R_In = true := by kernel_rfl
theorem c39 : funB Try.prog num Try.f114 A_eco_Inner = true := by kernel_rfl
theorem c40 : funB Try.prog num Try.f96 A_eco_Outer = true := by kernel_rfl
theorem c41 : funB Try.prog num Try.f93 A_eco_Loc = true := by kernel_rfl
theorem c42 : funB Try.prog num Try.f162 A_eco_Eco = true := by kernel_rfl
theorem c44 : funB Try.prog num Try.f19 A_xlaw00_FewGraph = true := by kernel_rfl
theorem c45 : funB Try.prog num Try.f20 A_xref06_Check = true := by kernel_rfl
theorem c48 : funB Try.prog num Try.f97 A_eco_Rf = true := by kernel_rfl
theorem c49 : funB Try.prog num Try.f53 A_eco_Co = true := by kernel_rfl
theorem c50 : funB Try.prog num Try.f52 A_eco_Fr = true := by kernel_rfl
theorem c51 : funB Try.prog num Try.f117 A_rel_Rel_by = true := by kernel_rfl
theorem c52 : funB Try.prog num Try.f169 A_rel_Rel_And_1 = true := by kernel_rfl
theorem c53 : funB Try.prog num Try.f118 A_rel_Rel_Or_1 = true := by kernel_rfl
theorem c54 : funB Try.prog num Try.f156 A_rel_Rel_Less_1 = true := by kernel_rfl
theorem c55 : funB Try.prog num Try.f132 A_xref01_SamePairs = true := by kernel_rfl
theorem c56 : funB Try.prog num Try.f133 A_xref01_R_Pairs = true := by kernel_rfl
theorem c57 : funB Try.prog num Try.f158 A_eco_some = true := by kernel_rfl
theorem c58 : funB Try.prog num Try.f167 A_eco_Inner_1 = true := by kernel_rfl
theorem c59 : funB Try.prog num Try.f160 A_eco_Outer_1 = true := by kernel_rfl
theorem c60 : funB Try.prog num Try.f28 A_graph_Po = true := by kernel_rfl
theorem c61 : funB Try.prog num Try.f159 A_eco_Loc_1 = true := by kernel_rfl
theorem c63 : funB Try.prog num Try.f54 A_xref06_event = true := by kernel_rfl
theorem c64 : funB Try.prog num Try.f55 A_xref06_rf = true := by kernel_rfl
theorem c65 : funB Try.prog num Try.f56 A_xref06_co = true := by kernel_rfl
theorem c66 : funB Try.prog num Try.f57 A_xref06_rmw = true := by kernel_rfl
theorem c67 : funB Try.prog num Try.f58 A_xref06_deps = true := by kernel_rfl
theorem c69 : funB Try.prog num Try.f126 A_xref09_Rf = true := by kernel_rfl
theorem c70 : funB Try.prog num Try.f179 A_xref09_Co = true := by kernel_rfl
theorem c71 : funB Try.prog num Try.f178 A_xref09_Fr = true := by kernel_rfl
theorem c73 : funB Try.prog num Try.f142 A_xref09_Loc = true := by kernel_rfl
theorem c74 : funB Try.prog num Try.f125 A_xref09_Inner = true := by kernel_rfl
theorem c75 : funB Try.prog num Try.f148 A_xref09_Outer = true := by kernel_rfl
theorem c80 : funB Try.prog num Try.f120 A_eco_pairs = true := by kernel_rfl
theorem c81 : funB Try.prog num Try.f81 A_graph_Of = true := by kernel_rfl
theorem c82 : funB Try.prog num Try.f121 A_xref06_rising = true := by kernel_rfl
theorem c84 : funB Try.prog num Try.f147 A_xref06_Po = true := by kernel_rfl
theorem c85 : funB Try.prog num Try.f175 A_xref09_part = true := by kernel_rfl
theorem c92 : funB Try.prog num Try.f170 A_eco_pairs_1 = true := by kernel_rfl
theorem c93 : funB Try.prog num Try.f171 A_eco_pairs_2 = true := by kernel_rfl
theorem c94 : funB Try.prog num Try.f172 A_eco_pairs_3 = true := by kernel_rfl
theorem c95 : funB Try.prog num Try.f173 A_eco_pairs_4 = true := by kernel_rfl
theorem c96 : funB Try.prog num Try.f174 A_eco_pairs_5 = true := by kernel_rfl
theorem c133 : funB Try.prog num Try.f3 A_xlaw19_PpoKnown = true := by kernel_rfl
theorem c135 : funB Try.prog num Try.f5 A_xlaw19_PpoAny = true := by kernel_rfl
theorem c143 : funB Try.prog num Try.f14 A_ppo_Ppo = true := by kernel_rfl
theorem c144 : funB Try.prog num Try.f16 A_xlaw19_awake = true := by kernel_rfl
theorem c145 : funB Try.prog num Try.f17 A_ppo_Rdw = true := by kernel_rfl
theorem c146 : funB Try.prog num Try.f18 A_ppo_Detour = true := by kernel_rfl
theorem c147 : funB Try.prog num Try.f21 A_xlaw19_all = true := by kernel_rfl
theorem c165 : funB Try.prog num Try.f44 A_ppo_Parts = true := by kernel_rfl
theorem c166 : funB Try.prog num Try.f45 A_graph_Set = true := by kernel_rfl
theorem c167 : funB Try.prog num Try.f46 A_ppo_isR = true := by kernel_rfl
theorem c168 : funB Try.prog num Try.f47 A_ppo_isW = true := by kernel_rfl
theorem c169 : funB Try.prog num Try.f50 A_xlaw19_after = true := by kernel_rfl
theorem c170 : funB Try.prog num Try.f51 A_ppo_by = true := by kernel_rfl
theorem c171 : funB Try.prog num Try.f59 A_xref19_Parts = true := by kernel_rfl
theorem c172 : funB Try.prog num Try.f60 A_xlaw19_same = true := by kernel_rfl
theorem c173 : funB Try.prog num Try.f61 A_xref19_Ppo = true := by kernel_rfl
theorem c174 : funB Try.prog num Try.f62 A_xref19_Rdw = true := by kernel_rfl
theorem c175 : funB Try.prog num Try.f63 A_xref19_Detour = true := by kernel_rfl
theorem c219 : funB Try.prog num Try.f112 A_ppo_isM = true := by kernel_rfl
theorem c220 : funB Try.prog num Try.f113 A_ppo_or = true := by kernel_rfl
theorem c221 : funB Try.prog num Try.f116 A_ppo_ploc = true := by kernel_rfl
theorem c222 : funB Try.prog num Try.f122 A_xref19_M = true := by kernel_rfl
theorem c223 : funB Try.prog num Try.f123 A_xref06_Of = true := by kernel_rfl
theorem c224 : funB Try.prog num Try.f129 A_xref19_Ploc = true := by kernel_rfl
theorem c225 : funB Try.prog num Try.f134 A_xref06_Kind = true := by kernel_rfl
theorem c226 : funB Try.prog num Try.f136 A_xref19_fre = true := by kernel_rfl
theorem c227 : funB Try.prog num Try.f137 A_xref19_rfe = true := by kernel_rfl
theorem c228 : funB Try.prog num Try.f138 A_xref19_coe = true := by kernel_rfl
theorem c231 : funB Try.prog num Try.f144 A_xref01_R_Star = true := by kernel_rfl
theorem c246 : funB Try.prog num Try.f168 A_ppo_ploc_1 = true := by kernel_rfl
theorem c247 : funB Try.prog num Try.f176 A_xref19_Mine = true := by kernel_rfl
def Good (r : Nat × Nat × AFun) : Prop := num r.1 = r.2.1 ∧ ∃ fn, Try.prog.funcs[r.2.1]? = some fn ∧ funB Try.prog num fn r.2.2 = true
theorem good : ∀ r ∈ tab, Good r := by
  intro r hr
  unfold tab at hr
  rcases List.mem_cons.1 hr with rfl | hr
  · exact ⟨by kernel_rfl, _, Try.func13, c10⟩
  rcases List.mem_cons.1 hr with rfl | hr
  · exact ⟨by kernel_rfl, _, Try.func115, c11⟩
  rcases List.mem_cons.1 hr with rfl | hr
  · exact ⟨by kernel_rfl, _, Try.func31, c12⟩
  rcases List.mem_cons.1 hr with rfl | hr
  · exact ⟨by kernel_rfl, _, Try.func15, c13⟩
  rcases List.mem_cons.1 hr with rfl | hr
  · exact ⟨by kernel_rfl, _, Try.func30, c14⟩
  rcases List.mem_cons.1 hr with rfl | hr
  · exact ⟨by kernel_rfl, _, Try.func24, c15⟩
  rcases List.mem_cons.1 hr with rfl | hr
  · exact ⟨by kernel_rfl, _, Try.func139, c16⟩
  rcases List.mem_cons.1 hr with rfl | hr
  · exact ⟨by kernel_rfl, _, Try.func131, c17⟩
  rcases List.mem_cons.1 hr with rfl | hr
  · exact ⟨by kernel_rfl, _, Try.func119, c18⟩
  rcases List.mem_cons.1 hr with rfl | hr
  · exact ⟨by kernel_rfl, _, Try.func32, c22⟩
  rcases List.mem_cons.1 hr with rfl | hr
  · exact ⟨by kernel_rfl, _, Try.func48, c23⟩
  rcases List.mem_cons.1 hr with rfl | hr
  · exact ⟨by kernel_rfl, _, Try.func49, c24⟩
  rcases List.mem_cons.1 hr with rfl | hr
  · exact ⟨by kernel_rfl, _, Try.func82, c26⟩
  rcases List.mem_cons.1 hr with rfl | hr
  · exact ⟨by kernel_rfl, _, Try.func127, c27⟩
  rcases List.mem_cons.1 hr with rfl | hr
  · exact ⟨by kernel_rfl, _, Try.func128, c29⟩
  rcases List.mem_cons.1 hr with rfl | hr
  · exact ⟨by kernel_rfl, _, Try.func135, c30⟩
  rcases List.mem_cons.1 hr with rfl | hr
  · exact ⟨by kernel_rfl, _, Try.func177, c31⟩
  rcases List.mem_cons.1 hr with rfl | hr
  · exact ⟨by kernel_rfl, _, Try.func124, c32⟩
  rcases List.mem_cons.1 hr with rfl | hr
  · exact ⟨by kernel_rfl, _, Try.func182, c33⟩
  rcases List.mem_cons.1 hr with rfl | hr
  · exact ⟨by kernel_rfl, _, Try.func151, c34⟩
  rcases List.mem_cons.1 hr with rfl | hr
  · exact ⟨by kernel_rfl, _, Try.func143, c35⟩
  rcases List.mem_cons.1 hr with rfl | hr
  · exact ⟨by kernel_rfl, _, Try.func130, c36⟩
  rcases List.mem_cons.1 hr with rfl | hr
  · exact ⟨by kernel_rfl, _, Try.func114, c39⟩
  rcases List.mem_cons.1 hr with rfl | hr
  · exact ⟨by kernel_rfl, _, Try.func96, c40⟩
  rcases List.mem_cons.1 hr with rfl | hr
  · exact ⟨by kernel_rfl, _, Try.func93, c41⟩
  rcases List.mem_cons.1 hr with rfl | hr
  · exact ⟨by kernel_rfl, _, Try.func162, c42⟩
  rcases List.mem_cons.1 hr with rfl | hr
  · exact ⟨by kernel_rfl, _, Try.func19, c44⟩
  rcases List.mem_cons.1 hr with rfl | hr
  · exact ⟨by kernel_rfl, _, Try.func20, c45⟩
  rcases List.mem_cons.1 hr with rfl | hr
  · exact ⟨by kernel_rfl, _, Try.func97, c48⟩
  rcases List.mem_cons.1 hr with rfl | hr
  · exact ⟨by kernel_rfl, _, Try.func53, c49⟩
  rcases List.mem_cons.1 hr with rfl | hr
  · exact ⟨by kernel_rfl, _, Try.func52, c50⟩
  rcases List.mem_cons.1 hr with rfl | hr
  · exact ⟨by kernel_rfl, _, Try.func117, c51⟩
  rcases List.mem_cons.1 hr with rfl | hr
  · exact ⟨by kernel_rfl, _, Try.func169, c52⟩
  rcases List.mem_cons.1 hr with rfl | hr
  · exact ⟨by kernel_rfl, _, Try.func118, c53⟩
  rcases List.mem_cons.1 hr with rfl | hr
  · exact ⟨by kernel_rfl, _, Try.func156, c54⟩
  rcases List.mem_cons.1 hr with rfl | hr
  · exact ⟨by kernel_rfl, _, Try.func132, c55⟩
  rcases List.mem_cons.1 hr with rfl | hr
  · exact ⟨by kernel_rfl, _, Try.func133, c56⟩
  rcases List.mem_cons.1 hr with rfl | hr
  · exact ⟨by kernel_rfl, _, Try.func158, c57⟩
  rcases List.mem_cons.1 hr with rfl | hr
  · exact ⟨by kernel_rfl, _, Try.func167, c58⟩
  rcases List.mem_cons.1 hr with rfl | hr
  · exact ⟨by kernel_rfl, _, Try.func160, c59⟩
  rcases List.mem_cons.1 hr with rfl | hr
  · exact ⟨by kernel_rfl, _, Try.func28, c60⟩
  rcases List.mem_cons.1 hr with rfl | hr
  · exact ⟨by kernel_rfl, _, Try.func159, c61⟩
  rcases List.mem_cons.1 hr with rfl | hr
  · exact ⟨by kernel_rfl, _, Try.func54, c63⟩
  rcases List.mem_cons.1 hr with rfl | hr
  · exact ⟨by kernel_rfl, _, Try.func55, c64⟩
  rcases List.mem_cons.1 hr with rfl | hr
  · exact ⟨by kernel_rfl, _, Try.func56, c65⟩
  rcases List.mem_cons.1 hr with rfl | hr
  · exact ⟨by kernel_rfl, _, Try.func57, c66⟩
  rcases List.mem_cons.1 hr with rfl | hr
  · exact ⟨by kernel_rfl, _, Try.func58, c67⟩
  rcases List.mem_cons.1 hr with rfl | hr
  · exact ⟨by kernel_rfl, _, Try.func126, c69⟩
  rcases List.mem_cons.1 hr with rfl | hr
  · exact ⟨by kernel_rfl, _, Try.func179, c70⟩
  rcases List.mem_cons.1 hr with rfl | hr
  · exact ⟨by kernel_rfl, _, Try.func178, c71⟩
  rcases List.mem_cons.1 hr with rfl | hr
  · exact ⟨by kernel_rfl, _, Try.func142, c73⟩
  rcases List.mem_cons.1 hr with rfl | hr
  · exact ⟨by kernel_rfl, _, Try.func125, c74⟩
  rcases List.mem_cons.1 hr with rfl | hr
  · exact ⟨by kernel_rfl, _, Try.func148, c75⟩
  rcases List.mem_cons.1 hr with rfl | hr
  · exact ⟨by kernel_rfl, _, Try.func120, c80⟩
  rcases List.mem_cons.1 hr with rfl | hr
  · exact ⟨by kernel_rfl, _, Try.func81, c81⟩
  rcases List.mem_cons.1 hr with rfl | hr
  · exact ⟨by kernel_rfl, _, Try.func121, c82⟩
  rcases List.mem_cons.1 hr with rfl | hr
  · exact ⟨by kernel_rfl, _, Try.func147, c84⟩
  rcases List.mem_cons.1 hr with rfl | hr
  · exact ⟨by kernel_rfl, _, Try.func175, c85⟩
  rcases List.mem_cons.1 hr with rfl | hr
  · exact ⟨by kernel_rfl, _, Try.func170, c92⟩
  rcases List.mem_cons.1 hr with rfl | hr
  · exact ⟨by kernel_rfl, _, Try.func171, c93⟩
  rcases List.mem_cons.1 hr with rfl | hr
  · exact ⟨by kernel_rfl, _, Try.func172, c94⟩
  rcases List.mem_cons.1 hr with rfl | hr
  · exact ⟨by kernel_rfl, _, Try.func173, c95⟩
  rcases List.mem_cons.1 hr with rfl | hr
  · exact ⟨by kernel_rfl, _, Try.func174, c96⟩
  rcases List.mem_cons.1 hr with rfl | hr
  · exact ⟨by kernel_rfl, _, Try.func3, c133⟩
  rcases List.mem_cons.1 hr with rfl | hr
  · exact ⟨by kernel_rfl, _, Try.func5, c135⟩
  rcases List.mem_cons.1 hr with rfl | hr
  · exact ⟨by kernel_rfl, _, Try.func14, c143⟩
  rcases List.mem_cons.1 hr with rfl | hr
  · exact ⟨by kernel_rfl, _, Try.func16, c144⟩
  rcases List.mem_cons.1 hr with rfl | hr
  · exact ⟨by kernel_rfl, _, Try.func17, c145⟩
  rcases List.mem_cons.1 hr with rfl | hr
  · exact ⟨by kernel_rfl, _, Try.func18, c146⟩
  rcases List.mem_cons.1 hr with rfl | hr
  · exact ⟨by kernel_rfl, _, Try.func21, c147⟩
  rcases List.mem_cons.1 hr with rfl | hr
  · exact ⟨by kernel_rfl, _, Try.func44, c165⟩
  rcases List.mem_cons.1 hr with rfl | hr
  · exact ⟨by kernel_rfl, _, Try.func45, c166⟩
  rcases List.mem_cons.1 hr with rfl | hr
  · exact ⟨by kernel_rfl, _, Try.func46, c167⟩
  rcases List.mem_cons.1 hr with rfl | hr
  · exact ⟨by kernel_rfl, _, Try.func47, c168⟩
  rcases List.mem_cons.1 hr with rfl | hr
  · exact ⟨by kernel_rfl, _, Try.func50, c169⟩
  rcases List.mem_cons.1 hr with rfl | hr
  · exact ⟨by kernel_rfl, _, Try.func51, c170⟩
  rcases List.mem_cons.1 hr with rfl | hr
  · exact ⟨by kernel_rfl, _, Try.func59, c171⟩
  rcases List.mem_cons.1 hr with rfl | hr
  · exact ⟨by kernel_rfl, _, Try.func60, c172⟩
  rcases List.mem_cons.1 hr with rfl | hr
  · exact ⟨by kernel_rfl, _, Try.func61, c173⟩
  rcases List.mem_cons.1 hr with rfl | hr
  · exact ⟨by kernel_rfl, _, Try.func62, c174⟩
  rcases List.mem_cons.1 hr with rfl | hr
  · exact ⟨by kernel_rfl, _, Try.func63, c175⟩
  rcases List.mem_cons.1 hr with rfl | hr
  · exact ⟨by kernel_rfl, _, Try.func112, c219⟩
  rcases List.mem_cons.1 hr with rfl | hr
  · exact ⟨by kernel_rfl, _, Try.func113, c220⟩
  rcases List.mem_cons.1 hr with rfl | hr
  · exact ⟨by kernel_rfl, _, Try.func116, c221⟩
  rcases List.mem_cons.1 hr with rfl | hr
  · exact ⟨by kernel_rfl, _, Try.func122, c222⟩
  rcases List.mem_cons.1 hr with rfl | hr
  · exact ⟨by kernel_rfl, _, Try.func123, c223⟩
  rcases List.mem_cons.1 hr with rfl | hr
  · exact ⟨by kernel_rfl, _, Try.func129, c224⟩
  rcases List.mem_cons.1 hr with rfl | hr
  · exact ⟨by kernel_rfl, _, Try.func134, c225⟩
  rcases List.mem_cons.1 hr with rfl | hr
  · exact ⟨by kernel_rfl, _, Try.func136, c226⟩
  rcases List.mem_cons.1 hr with rfl | hr
  · exact ⟨by kernel_rfl, _, Try.func137, c227⟩
  rcases List.mem_cons.1 hr with rfl | hr
  · exact ⟨by kernel_rfl, _, Try.func138, c228⟩
  rcases List.mem_cons.1 hr with rfl | hr
  · exact ⟨by kernel_rfl, _, Try.func144, c231⟩
  rcases List.mem_cons.1 hr with rfl | hr
  · exact ⟨by kernel_rfl, _, Try.func168, c246⟩
  rcases List.mem_cons.1 hr with rfl | hr
  · exact ⟨by kernel_rfl, _, Try.func176, c247⟩
  cases hr
theorem table : Table Try.prog num funs := by
  intro f A h
  unfold funs at h
  cases hf : tab.find? (fun r => r.1 == f) with
  | none => rw [hf] at h; cases h
  | some r =>
    rw [hf] at h; cases h
    have h1 := List.find?_some hf
    simp only [beq_iff_eq] at h1
    subst h1
    obtain ⟨h2, h3⟩ := good r (List.mem_of_find?_eq_some hf)
    rw [h2]; exact h3
theorem pk_eco : Pk_eco funs := ⟨rfl, rfl, rfl, rfl, rfl, rfl, rfl, rfl, rfl, rfl, rfl, rfl, rfl, rfl, rfl, rfl, rfl⟩
theorem pk_xref01 : Pk_xref01 funs := ⟨rfl, rfl, rfl, rfl, rfl, rfl, rfl, rfl, rfl, rfl, rfl⟩
theorem pk_xref06 : Pk_xref06 funs := ⟨rfl, rfl, rfl, rfl, rfl, rfl, rfl, rfl⟩
theorem pk_xref09 : Pk_xref09 funs := ⟨rfl, rfl, rfl, rfl, rfl, rfl, rfl⟩
theorem pk_xref19 : Pk_xref19 funs := ⟨rfl, rfl, rfl, rfl, rfl, rfl, rfl, rfl, rfl, rfl⟩
theorem pk_ppo : Pk_ppo funs := ⟨rfl, rfl, rfl, rfl, rfl, rfl, rfl, rfl, rfl, rfl, rfl⟩
theorem pk_rel : Pk_rel funs := ⟨rfl, rfl, rfl, rfl, rfl, rfl, rfl, rfl, rfl, rfl, rfl, rfl, rfl, rfl, rfl, rfl⟩
end Go.Proofs.Ytkiecemdbkjccaa
end
