/- What the functions compute that OrderAny reaches, part 1; lemmas, no claim of its own. -/
import Derived.Test.YtkiecemdbkjccaaGreatChecked
import Derived.KernelRfl
import Derived.Test.YtkiecemdbkjccaaGreatGA
import Derived.Test.YtkiecemdbkjccaaGreatGB
import Derived.Test.YtkiecemdbkjccaaGreatGC
import Derived.Test.YtkiecemdbkjccaaGreatGE
import Derived.Test.YtkiecemdbkjccaaGreatGH
import Derived.Test.YtkiecemdbkjccaaGreatGJ
import Derived.Test.YtkiecemdbkjccaaGreatGK
import Derived.Test.YtkiecemdbkjccaaGreatGL
import Derived.Test.YtkiecemdbkjccaaGreatGM
section
/- The functions that are reached, asx resolved, held against the program (written by a program, tab.py). -/
set_option maxRecDepth 100000
set_option linter.unusedVariables false
namespace Go.Proofs.YtkiecemdbkjccaaGreat
open Go.Ab
def tab : List (Nat × Nat × AFun) := [(11, 120, A_rel_New),
 (12, 48, A_rel_Rel_Plus),
 (13, 19, A_rel_Rel_Has),
 (14, 110, A_rel_Rel_Loops),
 (15, 68, A_rel_Rel_Pairs),
 (16, 139, A_rel_Rel_Maybe),
 (17, 66, A_rel_Rel_Len),
 (18, 93, A_rel_Rel_And),
 (23, 51, A_rel_Rel_Then),
 (24, 45, A_rel_Rel_Or),
 (27, 88, A_xref01_New),
 (29, 83, A_xref01_R_Or),
 (30, 96, A_xref01_R_And),
 (32, 81, A_xref01_R_Then),
 (33, 132, A_xref01_R_Back),
 (34, 91, A_xref01_R_Plus),
 (35, 142, A_xref01_R_Maybe),
 (39, 46, A_eco_Inner),
 (40, 55, A_eco_Outer),
 (41, 78, A_eco_Loc),
 (42, 99, A_eco_Eco),
 (44, 5, A_xlaw00_FewGraph),
 (45, 6, A_xref06_Check),
 (48, 47, A_eco_Rf),
 (49, 92, A_eco_Co),
 (50, 109, A_eco_Fr),
 (51, 114, A_rel_Rel_by),
 (52, 124, A_rel_Rel_And_1),
 (53, 115, A_rel_Rel_Or_1),
 (55, 67, A_xref01_SamePairs),
 (56, 69, A_xref01_R_Pairs),
 (57, 116, A_eco_some),
 (58, 117, A_eco_Inner_1),
 (59, 121, A_eco_Outer_1),
 (60, 65, A_graph_Po),
 (61, 122, A_eco_Loc_1),
 (63, 12, A_xref06_event),
 (64, 13, A_xref06_rf),
 (65, 14, A_xref06_co),
 (66, 15, A_xref06_rmw),
 (67, 16, A_xref06_deps),
 (69, 90, A_xref09_Rf),
 (70, 95, A_xref09_Co),
 (71, 112, A_xref09_Fr),
 (72, 101, A_xref09_Eco),
 (73, 85, A_xref09_Loc),
 (74, 89, A_xref09_Inner),
 (75, 94, A_xref09_Outer),
 (80, 118, A_eco_pairs),
 (81, 61, A_graph_Of),
 (82, 44, A_xref06_rising),
 (83, 127, A_xref09_Com),
 (84, 79, A_xref06_Po),
 (85, 123, A_xref09_part),
 (92, 133, A_eco_pairs_1),
 (93, 134, A_eco_pairs_2),
 (94, 135, A_eco_pairs_3),
 (95, 136, A_eco_pairs_4),
 (96, 137, A_eco_pairs_5),
 (148, 98, A_sync_Hb),
 (149, 141, A_sync_Release),
 (155, 23, A_order_Bob),
 (156, 20, A_order_Ar),
 (157, 7, A_xlaw11_awake),
 (166, 119, A_graph_Set),
 (176, 125, A_sync_Sw),
 (177, 138, A_sync_then),
 (178, 140, A_sync_set),
 (179, 148, A_sync_Rs),
 (182, 150, A_xref10_Rs),
 (183, 143, A_xref10_Release),
 (184, 126, A_xref10_Sw),
 (185, 100, A_xref10_Hb),
 (193, 53, A_order_all),
 (194, 70, A_order_Bob_1),
 (195, 49, A_order_set),
 (196, 71, A_order_isRel),
 (197, 72, A_order_Bob_2),
 (198, 73, A_order_isAcq),
 (199, 74, A_order_Bob_3),
 (200, 75, A_order_isF),
 (201, 76, A_order_Bob_4),
 (202, 77, A_order_Bob_5),
 (203, 52, A_order_isW),
 (204, 54, A_order_Ar_1),
 (205, 56, A_order_Ar_2),
 (206, 57, A_order_Ar_3),
 (207, 17, A_order_Ppo),
 (208, 58, A_order_Ar_4),
 (209, 27, A_order_Detour),
 (210, 59, A_order_Ar_5),
 (211, 29, A_order_Psc),
 (212, 18, A_xlaw11_after),
 (213, 21, A_order_Deps),
 (223, 87, A_xref06_Of),
 (225, 80, A_xref06_Kind),
 (229, 147, A_sync_set_1),
 (230, 86, A_xref10_W),
 (231, 152, A_xref01_R_Star),
 (232, 82, A_xref10_Wrel),
 (233, 149, A_xref10_Frel),
 (234, 84, A_xref10_Racq),
 (235, 144, A_xref10_Facq),
 (240, 50, A_order_isR),
 (241, 97, A_order_isSc),
 (242, 60, A_order_Deps_1),
 (243, 62, A_order_Deps_2),
 (244, 63, A_order_Deps_3),
 (245, 64, A_order_isEx),
 (250, 3, A_xlaw11_OrderAny),
 (252, 8, A_xlaw11_all),
 (254, 22, A_xlaw11_same),
 (255, 24, A_xref11_Bob),
 (256, 25, A_xref11_Deps),
 (257, 26, A_xref11_Ppo),
 (258, 28, A_xref11_Detour),
 (259, 30, A_xref11_Psc),
 (260, 31, A_xref11_Ar)]
def num (f : Nat) : Nat := ((tab.find? (fun r => r.1 == f)).map (·.2.1)).getD 0
def funs : Funs := fun f => (tab.find? (fun r => r.1 == f)).map (·.2.2)
theorem c11 : funB Tryz.prog num Tryz.f120 A_rel_New = true := by kernel_rfl
theorem c12 : funB Tryz.prog num Tryz.f48 A_rel_Rel_Plus = true := by kernel_rfl
theorem c13 : funB Tryz.prog num Tryz.f19 A_rel_Rel_Has = true := by kernel_rfl
theorem c14 : funB Tryz.prog num Tryz.f110 A_rel_Rel_Loops = true := by kernel_rfl
theorem c15 : funB Tryz.prog num Tryz.f68 A_rel_Rel_Pairs = true := by kernel_rfl
theorem c16 : funB Tryz.prog num Tryz.f139 A_rel_Rel_Maybe = true := by kernel_rfl
theorem c17 : funB Tryz.prog num Tryz.f66 A_rel_Rel_Len = true := by kernel_rfl
theorem c18 : funB Tryz.prog num Tryz.f93 A_rel_Rel_And = true := by kernel_rfl
theorem c23 : funB Tryz.prog num Tryz.f51 A_rel_Rel_Then = true := by kernel_rfl
theorem c24 : funB Tryz.prog num Tryz.f45 A_rel_Rel_Or = true := by kernel_rfl
theorem c27 : funB Tryz.prog num Tryz.f88 A_xref01_New = true := by kernel_rfl
theorem c29 : funB Tryz.prog num Tryz.f83 A_xref01_R_Or = true := by kernel_rfl
theorem c30 : funB Tryz.prog num Tryz.f96 A_xref01_R_And = true := by kernel_rfl
theorem c32 : funB Tryz.prog num Tryz.f81 A_xref01_R_Then = true := by kernel_rfl
theorem c33 : funB Tryz.prog num Tryz.f132 A_xref01_R_Back = true := by kernel_rfl
theorem c34 : funB Tryz.prog num Tryz.f91 A_xref01_R_Plus = true := by kernel_rfl
theorem c35 : funB Tryz.prog num Tryz.f142 A_xref01_R_Maybe = true := by kernel_rfl
theorem c39 : funB Tryz.prog num Tryz.f46 A_eco_Inner = true := by kernel_rfl
theorem c40 : funB Tryz.prog num Tryz.f55 A_eco_Outer = true := by kernel_rfl
theorem c41 : funB Tryz.prog num Tryz.f78 A_eco_Loc = true := by kernel_rfl
theorem c42 : funB Tryz.prog num Tryz.f99 A_eco_Eco = true := by kernel_rfl
theorem c44 : funB Tryz.prog num Tryz.f5 A_xlaw00_FewGraph = true := by kernel_rfl
theorem c45 : funB Tryz.prog num Tryz.f6 A_xref06_Check = true := by kernel_rfl
theorem c48 : funB Tryz.prog num Tryz.f47 A_eco_Rf = true := by kernel_rfl
theorem c49 : funB Tryz.prog num Tryz.f92 A_eco_Co = true := by kernel_rfl
theorem c50 : funB Tryz.prog num Tryz.f109 A_eco_Fr = true := by kernel_rfl
theorem c51 : funB Tryz.prog num Tryz.f114 A_rel_Rel_by = true := by kernel_rfl
theorem c52 : funB Tryz.prog num Tryz.f124 A_rel_Rel_And_1 = true := by kernel_rfl
theorem c53 : funB Tryz.prog num Tryz.f115 A_rel_Rel_Or_1 = true := by kernel_rfl
theorem c55 : funB Tryz.prog num Tryz.f67 A_xref01_SamePairs = true := by kernel_rfl
theorem c56 : funB Tryz.prog num Tryz.f69 A_xref01_R_Pairs = true := by kernel_rfl
theorem c57 : funB Tryz.prog num Tryz.f116 A_eco_some = true := by kernel_rfl
theorem c58 : funB Tryz.prog num Tryz.f117 A_eco_Inner_1 = true := by kernel_rfl
theorem c59 : funB Tryz.prog num Tryz.f121 A_eco_Outer_1 = true := by kernel_rfl
theorem c60 : funB Tryz.prog num Tryz.f65 A_graph_Po = true := by kernel_rfl
theorem c61 : funB Tryz.prog num Tryz.f122 A_eco_Loc_1 = true := by kernel_rfl
theorem c63 : funB Tryz.prog num Tryz.f12 A_xref06_event = true := by kernel_rfl
theorem c64 : funB Tryz.prog num Tryz.f13 A_xref06_rf = true := by kernel_rfl
theorem c65 : funB Tryz.prog num Tryz.f14 A_xref06_co = true := by kernel_rfl
theorem c66 : funB Tryz.prog num Tryz.f15 A_xref06_rmw = true := by kernel_rfl
theorem c67 : funB Tryz.prog num Tryz.f16 A_xref06_deps = true := by kernel_rfl
theorem c69 : funB Tryz.prog num Tryz.f90 A_xref09_Rf = true := by kernel_rfl
theorem c70 : funB Tryz.prog num Tryz.f95 A_xref09_Co = true := by kernel_rfl
theorem c71 : funB Tryz.prog num Tryz.f112 A_xref09_Fr = true := by kernel_rfl
theorem c72 : funB Tryz.prog num Tryz.f101 A_xref09_Eco = true := by kernel_rfl
theorem c73 : funB Tryz.prog num Tryz.f85 A_xref09_Loc = true := by kernel_rfl
theorem c74 : funB Tryz.prog num Tryz.f89 A_xref09_Inner = true := by kernel_rfl
theorem c75 : funB Tryz.prog num Tryz.f94 A_xref09_Outer = true := by kernel_rfl
theorem c80 : funB Tryz.prog num Tryz.f118 A_eco_pairs = true := by kernel_rfl
theorem c81 : funB Tryz.prog num Tryz.f61 A_graph_Of = true := by kernel_rfl
theorem c82 : funB Tryz.prog num Tryz.f44 A_xref06_rising = true := by kernel_rfl
theorem c83 : funB Tryz.prog num Tryz.f127 A_xref09_Com = true := by kernel_rfl
theorem c84 : funB Tryz.prog num Tryz.f79 A_xref06_Po = true := by kernel_rfl
theorem c85 : funB Tryz.prog num Tryz.f123 A_xref09_part = true := by kernel_rfl
theorem c92 : funB Tryz.prog num Tryz.f133 A_eco_pairs_1 = true := by kernel_rfl
theorem c93 : funB Tryz.prog num Tryz.f134 A_eco_pairs_2 = true := by kernel_rfl
theorem c94 : funB Tryz.prog num Tryz.f135 A_eco_pairs_3 = true := by kernel_rfl
theorem c95 : funB Tryz.prog num Tryz.f136 A_eco_pairs_4 = true := by kernel_rfl
theorem c96 : funB Tryz.prog num Tryz.f137 A_eco_pairs_5 = true := by kernel_rfl
theorem c148 : funB Tryz.prog num Tryz.f98 A_sync_Hb = true := by kernel_rfl
theorem c149 : funB Tryz.prog num Tryz.f141 A_sync_Release = true := by kernel_rfl
theorem c155 : funB Tryz.prog num Tryz.f23 A_order_Bob = true := by kernel_rfl
theorem c156 : funB Tryz.prog num Tryz.f20 A_order_Ar = true := by kernel_rfl
theorem c157 : funB Tryz.prog num Tryz.f7 A_xlaw11_awake = true := by kernel_rfl
theorem c166 : funB Tryz.prog num Tryz.f119 A_graph_Set = true := by kernel_rfl
theorem c176 : funB Tryz.prog num Tryz.f125 A_sync_Sw = true := by kernel_rfl
theorem c177 : funB Tryz.prog num Tryz.f138 A_sync_then = true := by kernel_rfl
theorem c178 : funB Tryz.prog num Tryz.f140 A_sync_set = true := by kernel_rfl
theorem c179 : funB Tryz.prog num Tryz.f148 A_sync_Rs = true := by kernel_rfl
theorem c182 : funB Tryz.prog num Tryz.f150 A_xref10_Rs = true := by kernel_rfl
theorem c183 : funB Tryz.prog num Tryz.f143 A_xref10_Release = true := by kernel_rfl
theorem c184 : funB Tryz.prog num Tryz.f126 A_xref10_Sw = true := by kernel_rfl
theorem c185 : funB Tryz.prog num Tryz.f100 A_xref10_Hb = true := by kernel_rfl
theorem c193 : funB Tryz.prog num Tryz.f53 A_order_all = true := by kernel_rfl
theorem c194 : funB Tryz.prog num Tryz.f70 A_order_Bob_1 = true := by kernel_rfl
theorem c195 : funB Tryz.prog num Tryz.f49 A_order_set = true := by kernel_rfl
theorem c196 : funB Tryz.prog num Tryz.f71 A_order_isRel = true := by kernel_rfl
theorem c197 : funB Tryz.prog num Tryz.f72 A_order_Bob_2 = true := by kernel_rfl
theorem c198 : funB Tryz.prog num Tryz.f73 A_order_isAcq = true := by kernel_rfl
theorem c199 : funB Tryz.prog num Tryz.f74 A_order_Bob_3 = true := by kernel_rfl
theorem c200 : funB Tryz.prog num Tryz.f75 A_order_isF = true := by kernel_rfl
theorem c201 : funB Tryz.prog num Tryz.f76 A_order_Bob_4 = true := by kernel_rfl
theorem c202 : funB Tryz.prog num Tryz.f77 A_order_Bob_5 = true := by kernel_rfl
theorem c203 : funB Tryz.prog num Tryz.f52 A_order_isW = true := by kernel_rfl
theorem c204 : funB Tryz.prog num Tryz.f54 A_order_Ar_1 = true := by kernel_rfl
theorem c205 : funB Tryz.prog num Tryz.f56 A_order_Ar_2 = true := by kernel_rfl
theorem c206 : funB Tryz.prog num Tryz.f57 A_order_Ar_3 = true := by kernel_rfl
theorem c207 : funB Tryz.prog num Tryz.f17 A_order_Ppo = true := by kernel_rfl
theorem c208 : funB Tryz.prog num Tryz.f58 A_order_Ar_4 = true := by kernel_rfl
theorem c209 : funB Tryz.prog num Tryz.f27 A_order_Detour = true := by kernel_rfl
theorem c210 : funB Tryz.prog num Tryz.f59 A_order_Ar_5 = true := by kernel_rfl
theorem c211 : funB Tryz.prog num Tryz.f29 A_order_Psc = true := by kernel_rfl
theorem c212 : funB Tryz.prog num Tryz.f18 A_xlaw11_after = true := by kernel_rfl
theorem c213 : funB Tryz.prog num Tryz.f21 A_order_Deps = true := by kernel_rfl
theorem c223 : funB Tryz.prog num Tryz.f87 A_xref06_Of = true := by kernel_rfl
theorem c225 : funB Tryz.prog num Tryz.f80 A_xref06_Kind = true := by kernel_rfl
theorem c229 : funB Tryz.prog num Tryz.f147 A_sync_set_1 = true := by kernel_rfl
theorem c230 : funB Tryz.prog num Tryz.f86 A_xref10_W = true := by kernel_rfl
theorem c231 : funB Tryz.prog num Tryz.f152 A_xref01_R_Star = true := by kernel_rfl
theorem c232 : funB Tryz.prog num Tryz.f82 A_xref10_Wrel = true := by kernel_rfl
theorem c233 : funB Tryz.prog num Tryz.f149 A_xref10_Frel = true := by kernel_rfl
theorem c234 : funB Tryz.prog num Tryz.f84 A_xref10_Racq = true := by kernel_rfl
theorem c235 : funB Tryz.prog num Tryz.f144 A_xref10_Facq = true := by kernel_rfl
theorem c240 : funB Tryz.prog num Tryz.f50 A_order_isR = true := by kernel_rfl
theorem c241 : funB Tryz.prog num Tryz.f97 A_order_isSc = true := by kernel_rfl
theorem c242 : funB Tryz.prog num Tryz.f60 A_order_Deps_1 = true := by kernel_rfl
theorem c243 : funB Tryz.prog num Tryz.f62 A_order_Deps_2 = true := by kernel_rfl
theorem c244 : funB Tryz.prog num Tryz.f63 A_order_Deps_3 = true := by kernel_rfl
theorem c245 : funB Tryz.prog num Tryz.f64 A_order_isEx = true := by kernel_rfl
theorem c250 : funB Tryz.prog num Tryz.f3 A_xlaw11_OrderAny = true := by kernel_rfl
theorem c252 : funB Tryz.prog num Tryz.f8 A_xlaw11_all = true := by kernel_rfl
theorem c254 : funB Tryz.prog num Tryz.f22 A_xlaw11_same = true := by kernel_rfl
theorem c255 : funB Tryz.prog num Tryz.f24 A_xref11_Bob = true := by kernel_rfl
theorem c256 : funB Tryz.prog num Tryz.f25 A_xref11_Deps = true := by kernel_rfl
theorem c257 : funB Tryz.prog num Tryz.f26 A_xref11_Ppo = true := by kernel_rfl
theorem c258 : funB Tryz.prog num Tryz.f28 A_xref11_Detour = true := by kernel_rfl
theorem c259 : funB Tryz.prog num Tryz.f30 A_xref11_Psc = true := by kernel_rfl
theorem c260 : funB Tryz.prog num Tryz.f31 A_xref11_Ar = true := by kernel_rfl
def Good (r : Nat × Nat × AFun) : Prop := num r.1 = r.2.1 ∧ ∃ fn, Tryz.prog.funcs[r.2.1]? = some fn ∧ funB Tryz.prog num fn r.2.2 = true
theorem good : ∀ r ∈ tab, Good r := by
  intro r hr
  unfold tab at hr
  rcases List.mem_cons.1 hr with rfl | hr
  · exact ⟨by kernel_rfl, _, Tryz.func120, c11⟩
  rcases List.mem_cons.1 hr with rfl | hr
  · exact ⟨by kernel_rfl, _, Tryz.func48, c12⟩
  rcases List.mem_cons.1 hr with rfl | hr
  · exact ⟨by kernel_rfl, _, Tryz.func19, c13⟩
  rcases List.mem_cons.1 hr with rfl | hr
  · exact ⟨by kernel_rfl, _, Tryz.func110, c14⟩
  rcases List.mem_cons.1 hr with rfl | hr
  · exact ⟨by kernel_rfl, _, Tryz.func68, c15⟩
  rcases List.mem_cons.1 hr with rfl | hr
  · exact ⟨by kernel_rfl, _, Tryz.func139, c16⟩
  rcases List.mem_cons.1 hr with rfl | hr
  · exact ⟨by kernel_rfl, _, Tryz.func66, c17⟩
  rcases List.mem_cons.1 hr with rfl | hr
  · exact ⟨by kernel_rfl, _, Tryz.func93, c18⟩
  rcases List.mem_cons.1 hr with rfl | hr
  · exact ⟨by kernel_rfl, _, Tryz.func51, c23⟩
  rcases List.mem_cons.1 hr with rfl | hr
  · exact ⟨by kernel_rfl, _, Tryz.func45, c24⟩
  rcases List.mem_cons.1 hr with rfl | hr
  · exact ⟨by kernel_rfl, _, Tryz.func88, c27⟩
  rcases List.mem_cons.1 hr with rfl | hr
  · exact ⟨by kernel_rfl, _, Tryz.func83, c29⟩
  rcases List.mem_cons.1 hr with rfl | hr
  · exact ⟨by kernel_rfl, _, Tryz.func96, c30⟩
  rcases List.mem_cons.1 hr with rfl | hr
  · exact ⟨by kernel_rfl, _, Tryz.func81, c32⟩
  rcases List.mem_cons.1 hr with rfl | hr
  · exact ⟨by kernel_rfl, _, Tryz.func132, c33⟩
  rcases List.mem_cons.1 hr with rfl | hr
  · exact ⟨by kernel_rfl, _, Tryz.func91, c34⟩
  rcases List.mem_cons.1 hr with rfl | hr
  · exact ⟨by kernel_rfl, _, Tryz.func142, c35⟩
  rcases List.mem_cons.1 hr with rfl | hr
  · exact ⟨by kernel_rfl, _, Tryz.func46, c39⟩
  rcases List.mem_cons.1 hr with rfl | hr
  · exact ⟨by kernel_rfl, _, Tryz.func55, c40⟩
  rcases List.mem_cons.1 hr with rfl | hr
  · exact ⟨by kernel_rfl, _, Tryz.func78, c41⟩
  rcases List.mem_cons.1 hr with rfl | hr
  · exact ⟨by kernel_rfl, _, Tryz.func99, c42⟩
  rcases List.mem_cons.1 hr with rfl | hr
  · exact ⟨by kernel_rfl, _, Tryz.func5, c44⟩
  rcases List.mem_cons.1 hr with rfl | hr
  · exact ⟨by kernel_rfl, _, Tryz.func6, c45⟩
  rcases List.mem_cons.1 hr with rfl | hr
  · exact ⟨by kernel_rfl, _, Tryz.func47, c48⟩
  rcases List.mem_cons.1 hr with rfl | hr
  · exact ⟨by kernel_rfl, _, Tryz.func92, c49⟩
  rcases List.mem_cons.1 hr with rfl | hr
  · exact ⟨by kernel_rfl, _, Tryz.func109, c50⟩
  rcases List.mem_cons.1 hr with rfl | hr
  · exact ⟨by kernel_rfl, _, Tryz.func114, c51⟩
  rcases List.mem_cons.1 hr with rfl | hr
  · exact ⟨by kernel_rfl, _, Tryz.func124, c52⟩
  rcases List.mem_cons.1 hr with rfl | hr
  · exact ⟨by kernel_rfl, _, Tryz.func115, c53⟩
  rcases List.mem_cons.1 hr with rfl | hr
  · exact ⟨by kernel_rfl, _, Tryz.func67, c55⟩
  rcases List.mem_cons.1 hr with rfl | hr
  · exact ⟨by kernel_rfl, _, Tryz.func69, c56⟩
  rcases List.mem_cons.1 hr with rfl | hr
  · exact ⟨by kernel_rfl, _, Tryz.func116, c57⟩
  rcases List.mem_cons.1 hr with rfl | hr
  · exact ⟨by kernel_rfl, _, Tryz.func117, c58⟩
  rcases List.mem_cons.1 hr with rfl | hr
  · exact ⟨by kernel_rfl, _, Tryz.func121, c59⟩
  rcases List.mem_cons.1 hr with rfl | hr
  · exact ⟨by kernel_rfl, _, Tryz.func65, c60⟩
  rcases List.mem_cons.1 hr with rfl | hr
  · exact ⟨by kernel_rfl, _, Tryz.func122, c61⟩
  rcases List.mem_cons.1 hr with rfl | hr
  · exact ⟨by kernel_rfl, _, Tryz.func12, c63⟩
  rcases List.mem_cons.1 hr with rfl | hr
  · exact ⟨by kernel_rfl, _, Tryz.func13, c64⟩
  rcases List.mem_cons.1 hr with rfl | hr
  · exact ⟨by kernel_rfl, _, Tryz.func14, c65⟩
  rcases List.mem_cons.1 hr with rfl | hr
  · exact ⟨by kernel_rfl, _, Tryz.func15, c66⟩
  rcases List.mem_cons.1 hr with rfl | hr
  · exact ⟨by kernel_rfl, _, Tryz.func16, c67⟩
  rcases List.mem_cons.1 hr with rfl | hr
  · exact ⟨by kernel_rfl, _, Tryz.func90, c69⟩
  rcases List.mem_cons.1 hr with rfl | hr
  · exact ⟨by kernel_rfl, _, Tryz.func95, c70⟩
  rcases List.mem_cons.1 hr with rfl | hr
  · exact ⟨by kernel_rfl, _, Tryz.func112, c71⟩
  rcases List.mem_cons.1 hr with rfl | hr
  · exact ⟨by kernel_rfl, _, Tryz.func101, c72⟩
  rcases List.mem_cons.1 hr with rfl | hr
  · exact ⟨by kernel_rfl, _, Tryz.func85, c73⟩
  rcases List.mem_cons.1 hr with rfl | hr
  · exact ⟨by kernel_rfl, _, Tryz.func89, c74⟩
  rcases List.mem_cons.1 hr with rfl | hr
  · exact ⟨by kernel_rfl, _, Tryz.func94, c75⟩
  rcases List.mem_cons.1 hr with rfl | hr
  · exact ⟨by kernel_rfl, _, Tryz.func118, c80⟩
  rcases List.mem_cons.1 hr with rfl | hr
  · exact ⟨by kernel_rfl, _, Tryz.func61, c81⟩
  rcases List.mem_cons.1 hr with rfl | hr
  · exact ⟨by kernel_rfl, _, Tryz.func44, c82⟩
  rcases List.mem_cons.1 hr with rfl | hr
  · exact ⟨by kernel_rfl, _, Tryz.func127, c83⟩
  rcases List.mem_cons.1 hr with rfl | hr
  · exact ⟨by kernel_rfl, _, Tryz.func79, c84⟩
  rcases List.mem_cons.1 hr with rfl | hr
  · exact ⟨by kernel_rfl, _, Tryz.func123, c85⟩
  rcases List.mem_cons.1 hr with rfl | hr
  · exact ⟨by kernel_rfl, _, Tryz.func133, c92⟩
  rcases List.mem_cons.1 hr with rfl | hr
  · exact ⟨by kernel_rfl, _, Tryz.func134, c93⟩
  rcases List.mem_cons.1 hr with rfl | hr
  · exact ⟨by kernel_rfl, _, Tryz.func135, c94⟩
  rcases List.mem_cons.1 hr with rfl | hr
  · exact ⟨by kernel_rfl, _, Tryz.func136, c95⟩
  rcases List.mem_cons.1 hr with rfl | hr
  · exact ⟨by kernel_rfl, _, Tryz.func137, c96⟩
  rcases List.mem_cons.1 hr with rfl | hr
  · exact ⟨by kernel_rfl, _, Tryz.func98, c148⟩
  rcases List.mem_cons.1 hr with rfl | hr
  · exact ⟨by kernel_rfl, _, Tryz.func141, c149⟩
  rcases List.mem_cons.1 hr with rfl | hr
  · exact ⟨by kernel_rfl, _, Tryz.func23, c155⟩
  rcases List.mem_cons.1 hr with rfl | hr
  · exact ⟨by kernel_rfl, _, Tryz.func20, c156⟩
  rcases List.mem_cons.1 hr with rfl | hr
  · exact ⟨by kernel_rfl, _, Tryz.func7, c157⟩
  rcases List.mem_cons.1 hr with rfl | hr
  · exact ⟨by kernel_rfl, _, Tryz.func119, c166⟩
  rcases List.mem_cons.1 hr with rfl | hr
  · exact ⟨by kernel_rfl, _, Tryz.func125, c176⟩
  rcases List.mem_cons.1 hr with rfl | hr
  · exact ⟨by kernel_rfl, _, Tryz.func138, c177⟩
  rcases List.mem_cons.1 hr with rfl | hr
  · exact ⟨by kernel_rfl, _, Tryz.func140, c178⟩
  rcases List.mem_cons.1 hr with rfl | hr
  · exact ⟨by kernel_rfl, _, Tryz.func148, c179⟩
  rcases List.mem_cons.1 hr with rfl | hr
  · exact ⟨by kernel_rfl, _, Tryz.func150, c182⟩
  rcases List.mem_cons.1 hr with rfl | hr
  · exact ⟨by kernel_rfl, _, Tryz.func143, c183⟩
  rcases List.mem_cons.1 hr with rfl | hr
  · exact ⟨by kernel_rfl, _, Tryz.func126, c184⟩
  rcases List.mem_cons.1 hr with rfl | hr
  · exact ⟨by kernel_rfl, _, Tryz.func100, c185⟩
  rcases List.mem_cons.1 hr with rfl | hr
  · exact ⟨by kernel_rfl, _, Tryz.func53, c193⟩
  rcases List.mem_cons.1 hr with rfl | hr
  · exact ⟨by kernel_rfl, _, Tryz.func70, c194⟩
  rcases List.mem_cons.1 hr with rfl | hr
  · exact ⟨by kernel_rfl, _, Tryz.func49, c195⟩
  rcases List.mem_cons.1 hr with rfl | hr
  · exact ⟨by kernel_rfl, _, Tryz.func71, c196⟩
  rcases List.mem_cons.1 hr with rfl | hr
  · exact ⟨by kernel_rfl, _, Tryz.func72, c197⟩
  rcases List.mem_cons.1 hr with rfl | hr
  · exact ⟨by kernel_rfl, _, Tryz.func73, c198⟩
  rcases List.mem_cons.1 hr with rfl | hr
  · exact ⟨by kernel_rfl, _, Tryz.func74, c199⟩
  rcases List.mem_cons.1 hr with rfl | hr
  · exact ⟨by kernel_rfl, _, Tryz.func75, c200⟩
  rcases List.mem_cons.1 hr with rfl | hr
  · exact ⟨by kernel_rfl, _, Tryz.func76, c201⟩
  rcases List.mem_cons.1 hr with rfl | hr
  · exact ⟨by kernel_rfl, _, Tryz.func77, c202⟩
  rcases List.mem_cons.1 hr with rfl | hr
  · exact ⟨by kernel_rfl, _, Tryz.func52, c203⟩
  rcases List.mem_cons.1 hr with rfl | hr
  · exact ⟨by kernel_rfl, _, Tryz.func54, c204⟩
  rcases List.mem_cons.1 hr with rfl | hr
  · exact ⟨by kernel_rfl, _, Tryz.func56, c205⟩
  rcases List.mem_cons.1 hr with rfl | hr
  · exact ⟨by kernel_rfl, _, Tryz.func57, c206⟩
  rcases List.mem_cons.1 hr with rfl | hr
  · exact ⟨by kernel_rfl, _, Tryz.func17, c207⟩
  rcases List.mem_cons.1 hr with rfl | hr
  · exact ⟨by kernel_rfl, _, Tryz.func58, c208⟩
  rcases List.mem_cons.1 hr with rfl | hr
  · exact ⟨by kernel_rfl, _, Tryz.func27, c209⟩
  rcases List.mem_cons.1 hr with rfl | hr
  · exact ⟨by kernel_rfl, _, Tryz.func59, c210⟩
  rcases List.mem_cons.1 hr with rfl | hr
  · exact ⟨by kernel_rfl, _, Tryz.func29, c211⟩
  rcases List.mem_cons.1 hr with rfl | hr
  · exact ⟨by kernel_rfl, _, Tryz.func18, c212⟩
  rcases List.mem_cons.1 hr with rfl | hr
  · exact ⟨by kernel_rfl, _, Tryz.func21, c213⟩
  rcases List.mem_cons.1 hr with rfl | hr
  · exact ⟨by kernel_rfl, _, Tryz.func87, c223⟩
  rcases List.mem_cons.1 hr with rfl | hr
  · exact ⟨by kernel_rfl, _, Tryz.func80, c225⟩
  rcases List.mem_cons.1 hr with rfl | hr
  · exact ⟨by kernel_rfl, _, Tryz.func147, c229⟩
  rcases List.mem_cons.1 hr with rfl | hr
  · exact ⟨by kernel_rfl, _, Tryz.func86, c230⟩
  rcases List.mem_cons.1 hr with rfl | hr
  · exact ⟨by kernel_rfl, _, Tryz.func152, c231⟩
  rcases List.mem_cons.1 hr with rfl | hr
  · exact ⟨by kernel_rfl, _, Tryz.func82, c232⟩
  rcases List.mem_cons.1 hr with rfl | hr
  · exact ⟨by kernel_rfl, _, Tryz.func149, c233⟩
  rcases List.mem_cons.1 hr with rfl | hr
  · exact ⟨by kernel_rfl, _, Tryz.func84, c234⟩
  rcases List.mem_cons.1 hr with rfl | hr
  · exact ⟨by kernel_rfl, _, Tryz.func144, c235⟩
  rcases List.mem_cons.1 hr with rfl | hr
  · exact ⟨by kernel_rfl, _, Tryz.func50, c240⟩
  rcases List.mem_cons.1 hr with rfl | hr
  · exact ⟨by kernel_rfl, _, Tryz.func97, c241⟩
  rcases List.mem_cons.1 hr with rfl | hr
  · exact ⟨by kernel_rfl, _, Tryz.func60, c242⟩
  rcases List.mem_cons.1 hr with rfl | hr
  · exact ⟨by kernel_rfl, _, Tryz.func62, c243⟩
  rcases List.mem_cons.1 hr with rfl | hr
  · exact ⟨by kernel_rfl, _, Tryz.func63, c244⟩
  rcases List.mem_cons.1 hr with rfl | hr
  · exact ⟨by kernel_rfl, _, Tryz.func64, c245⟩
  rcases List.mem_cons.1 hr with rfl | hr
  · exact ⟨by kernel_rfl, _, Tryz.func3, c250⟩
  rcases List.mem_cons.1 hr with rfl | hr
  · exact ⟨by kernel_rfl, _, Tryz.func8, c252⟩
  rcases List.mem_cons.1 hr with rfl | hr
  · exact ⟨by kernel_rfl, _, Tryz.func22, c254⟩
  rcases List.mem_cons.1 hr with rfl | hr
  · exact ⟨by kernel_rfl, _, Tryz.func24, c255⟩
  rcases List.mem_cons.1 hr with rfl | hr
  · exact ⟨by kernel_rfl, _, Tryz.func25, c256⟩
  rcases List.mem_cons.1 hr with rfl | hr
  · exact ⟨by kernel_rfl, _, Tryz.func26, c257⟩
  rcases List.mem_cons.1 hr with rfl | hr
  · exact ⟨by kernel_rfl, _, Tryz.func28, c258⟩
  rcases List.mem_cons.1 hr with rfl | hr
  · exact ⟨by kernel_rfl, _, Tryz.func30, c259⟩
  rcases List.mem_cons.1 hr with rfl | hr
  · exact ⟨by kernel_rfl, _, Tryz.func31, c260⟩
  cases hr
theorem table : Table Tryz.prog num funs := by
  intro f A h
  unfold funs at h
  cases hf : tab.find? (fun r => r.1 == f) with
  | none => rw [hf] at h; cases h
  | some r =>
    rw [hf] at h; cases h
    have h1 := List.find?_some hf
    simp only [beq_iff_eq] at h1
    subst h1
    obtain ⟨h2, h3⟩ := good r (List.mem_of_find?_eq_some hf)
    rw [h2]; exact h3
theorem pk_eco : Pk_eco funs := ⟨rfl, rfl, rfl, rfl, rfl, rfl, rfl, rfl, rfl, rfl, rfl, rfl, rfl, rfl, rfl, rfl, rfl⟩
theorem pk_xref01 : Pk_xref01 funs := ⟨rfl, rfl, rfl, rfl, rfl, rfl, rfl, rfl, rfl⟩
theorem pk_xref06 : Pk_xref06 funs := ⟨rfl, rfl, rfl, rfl, rfl, rfl, rfl, rfl⟩
theorem pk_xref09 : Pk_xref09 funs := ⟨rfl, rfl, rfl, rfl, rfl, rfl, rfl⟩
theorem pk_xref10 : Pk_xref10 funs := ⟨rfl, rfl, rfl, rfl, rfl, rfl, rfl, rfl, rfl⟩
theorem pk_xref11 : Pk_xref11 funs := ⟨rfl, rfl, rfl, rfl, rfl, rfl⟩
theorem pk_order : Pk_order funs := ⟨rfl, rfl, rfl, rfl, rfl, rfl, rfl, rfl, rfl, rfl, rfl, rfl, rfl, rfl, rfl, rfl, rfl, rfl, rfl, rfl, rfl, rfl, rfl, rfl, rfl, rfl, rfl, rfl⟩
theorem pk_rel : Pk_rel funs := ⟨rfl, rfl, rfl, rfl, rfl, rfl, rfl, rfl, rfl, rfl, rfl, rfl, rfl⟩
theorem pk_sync : Pk_sync funs := ⟨rfl, rfl, rfl, rfl, rfl, rfl, rfl⟩
end Go.Proofs.YtkiecemdbkjccaaGreat
end
