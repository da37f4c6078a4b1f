/- What the functions compute that EcoAny reaches, part 1; lemmas, no claim of its own. -/
import Derived.Test.YtfhinaopoffcnaaChecked
import Derived.KernelRfl
import Derived.Test.YtfhinaopoffcnaaGA
import Derived.Test.YtfhinaopoffcnaaGB
import Derived.Test.YtfhinaopoffcnaaGC
import Derived.Test.YtfhinaopoffcnaaGE
import Derived.Test.YtfhinaopoffcnaaGH
import Derived.Test.YtfhinaopoffcnaaGJ
section
/- The functions that are reached, asx resolved, held against the program (written by a program, tab.py). -/
set_option maxRecDepth 100000
set_option linter.unusedVariables false
namespace Go.Proofs.Ytfhinaopoffcnaa
open Go.Ab
def tab : List (Nat × Nat × AFun) := [(6, 8, A_xlaw09_EcoAny),
 (11, 13, A_rel_New),
 (12, 14, A_rel_Rel_Plus),
 (13, 15, A_rel_Rel_Has),
 (14, 16, A_rel_Rel_Loops),
 (15, 17, A_rel_Rel_Pairs),
 (16, 18, A_rel_Rel_Maybe),
 (17, 19, A_rel_Rel_Len),
 (18, 20, A_rel_Rel_And),
 (22, 24, A_rel_Rel_In),
 (23, 25, A_rel_Rel_Then),
 (24, 26, A_rel_Rel_Or),
 (25, 27, A_rel_Rel_Back),
 (26, 28, A_rel_Rel_Less),
 (27, 29, A_xref01_New),
 (29, 31, A_xref01_R_Or),
 (30, 32, A_xref01_R_And),
 (31, 33, A_xref01_R_Less),
 (32, 34, A_xref01_R_Then),
 (33, 35, A_xref01_R_Back),
 (34, 36, A_xref01_R_Plus),
 (35, 37, A_xref01_R_Maybe),
 (36, 38, A_xref01_R_In),
 (37, 39, A_xref01_R_Loops),
 (38, 40, A_xref01_R_Has),
 (39, 41, A_eco_Inner),
 (40, 42, A_eco_Outer),
 (41, 43, A_eco_Loc),
 (42, 44, A_eco_Eco),
 (43, 45, A_xlaw09_awake),
 (44, 46, A_xlaw00_FewGraph),
 (45, 47, A_xref06_Check),
 (46, 48, A_xlaw09_all),
 (48, 50, A_eco_Rf),
 (49, 51, A_eco_Co),
 (50, 52, A_eco_Fr),
 (51, 53, A_rel_Rel_by),
 (52, 54, A_rel_Rel_And_1),
 (53, 55, A_rel_Rel_Or_1),
 (54, 56, A_rel_Rel_Less_1),
 (55, 57, A_xref01_SamePairs),
 (56, 58, A_xref01_R_Pairs),
 (57, 59, A_eco_some),
 (58, 60, A_eco_Inner_1),
 (59, 61, A_eco_Outer_1),
 (60, 62, A_graph_Po),
 (61, 63, A_eco_Loc_1),
 (62, 64, A_xlaw09_two),
 (63, 65, A_xref06_event),
 (64, 66, A_xref06_rf),
 (65, 67, A_xref06_co),
 (66, 68, A_xref06_rmw),
 (67, 69, A_xref06_deps),
 (68, 70, A_xlaw09_same),
 (69, 71, A_xref09_Rf),
 (70, 72, A_xref09_Co),
 (71, 73, A_xref09_Fr),
 (72, 74, A_xref09_Eco),
 (73, 75, A_xref09_Loc),
 (74, 76, A_xref09_Inner),
 (75, 77, A_xref09_Outer),
 (80, 82, A_eco_pairs),
 (81, 83, A_graph_Of),
 (82, 84, A_xref06_rising),
 (83, 85, A_xref09_Com),
 (84, 86, A_xref06_Po),
 (85, 87, A_xref09_part),
 (92, 94, A_eco_pairs_1),
 (93, 95, A_eco_pairs_2),
 (94, 96, A_eco_pairs_3),
 (95, 97, A_eco_pairs_4),
 (96, 98, A_eco_pairs_5)]
def num (f : Nat) : Nat := ((tab.find? (fun r => r.1 == f)).map (·.2.1)).getD 0
def funs : Funs := fun f => (tab.find? (fun r => r.1 == f)).map (·.2.2)
theorem c6 : funB Try.prog num Try.f8 A_xlaw09_EcoAny = true := by kernel_rfl
theorem c11 : funB Try.prog num Try.f13 A_rel_New = true := by kernel_rfl
theorem c12 : funB Try.prog num Try.f14 A_rel_Rel_Plus = true := by kernel_rfl
theorem c13 : funB Try.prog num Try.f15 A_rel_Rel_Has = true := by kernel_rfl
theorem c14 : funB Try.prog num Try.f16 A_rel_Rel_Loops = true := by kernel_rfl
theorem c15 : funB Try.prog num Try.f17 A_rel_Rel_Pairs = true := by kernel_rfl
theorem c16 : funB Try.prog num Try.f18 A_rel_Rel_Maybe = true := by kernel_rfl
theorem c17 : funB Try.prog num Try.f19 A_rel_Rel_Len = true := by kernel_rfl
theorem c18 : funB Try.prog num Try.f20 A_rel_Rel_And = true := by kernel_rfl
theorem c22 : funB Try.prog num Try.f24 A_rel_Rel_In = true := by kernel_rfl
theorem c23 : funB Try.prog num Try.f25 A_rel_Rel_Then = true := by kernel_rfl
theorem c24 : funB Try.prog num Try.f26 A_rel_Rel_Or = true := by kernel_rfl
theorem c25 : funB Try.prog num Try.f27 A_rel_Rel_Back = true := by kernel_rfl
theorem c26 : funB Try.prog num Try.f28 A_rel_Rel_Less = true := by kernel_rfl
theorem c27 : funB Try.prog num Try.f29 A_xref01_New = true := by kernel_rfl
theorem c29 : funB Try.prog num Try.f31 A_xref01_R_Or = true := by kernel_rfl
theorem c30 : funB Try.prog num Try.f32 A_xref01_R_And = true := by kernel_rfl
theorem c31 : funB Try.prog num Try.f33 A_xref01_R_Less = true := by kernel_rfl
theorem c32 : funB Try.prog num Try.f34 A_xref01_R_Then = true := by kernel_rfl
theorem c33 : funB Try.prog num Try.f35 A_xref01_R_Back = true := by kernel_rfl
theorem c34 : funB Try.prog num Try.f36 A_xref01_R_Plus = true := by kernel_rfl
theorem c35 : funB Try.prog num Try.f37 A_xref01_R_Maybe = true := by kernel_rfl
theorem c36 : funB Try.prog num Try.f38 A_xref01_R_In = true := by kernel_rfl
theorem c37 : funB Try.prog num Try.f39 A_xref01_R_Loops = true := by kernel_rfl
theorem c38 : funB Try.prog num Try.f40 A_xref01_R_Has = true := by kernel_rfl
theorem c39 : funB Try.prog num Try.f41 A_eco_Inner = true := by kernel_rfl
theorem c40 : funB Try.prog num Try.f42 A_eco_Outer = true := by kernel_rfl
theorem c41 : funB Try.prog num Try.f43 A_eco_Loc = true := by kernel_rfl
theorem c42 : funB Try.prog num Try.f44 A_eco_Eco = true := by kernel_rfl
theorem c43 : funB Try.prog num Try.f45 A_xlaw09_awake = true := by kernel_rfl
theorem c44 : funB Try.prog num Try.f46 A_xlaw00_FewGraph = true := by kernel_rfl
theorem c45 : funB Try.prog num Try.f47 A_xref06_Check = true := by kernel_rfl
theorem c46 : funB Try.prog num Try.f48 A_xlaw09_all = true := by kernel_rfl
theorem c48 : funB Try.prog num Try.f50 A_eco_Rf = true := by kernel_rfl
theorem c49 : funB Try.prog num Try.f51 A_eco_Co = true := by kernel_rfl
theorem c50 : funB Try.prog num Try.f52 A_eco_Fr = true := by kernel_rfl
theorem c51 : funB Try.prog num Try.f53 A_rel_Rel_by = true := by kernel_rfl
theorem c52 : funB Try.prog num Try.f54 A_rel_Rel_And_1 = true := by kernel_rfl
theorem c53 : funB Try.prog num Try.f55 A_rel_Rel_Or_1 = true := by kernel_rfl
theorem c54 : funB Try.prog num Try.f56 A_rel_Rel_Less_1 = true := by kernel_rfl
theorem c55 : funB Try.prog num Try.f57 A_xref01_SamePairs = true := by kernel_rfl
theorem c56 : funB Try.prog num Try.f58 A_xref01_R_Pairs = true := by kernel_rfl
theorem c57 : funB Try.prog num Try.f59 A_eco_some = true := by kernel_rfl
theorem c58 : funB Try.prog num Try.f60 A_eco_Inner_1 = true := by kernel_rfl
theorem c59 : funB Try.prog num Try.f61 A_eco_Outer_1 = true := by kernel_rfl
theorem c60 : funB Try.prog num Try.f62 A_graph_Po = true := by kernel_rfl
theorem c61 : funB Try.prog num Try.f63 A_eco_Loc_1 = true := by kernel_rfl
theorem c62 : funB Try.prog num Try.f64 A_xlaw09_two = true := by kernel_rfl
theorem c63 : funB Try.prog num Try.f65 A_xref06_event = true := by kernel_rfl
theorem c64 : funB Try.prog num Try.f66 A_xref06_rf = true := by kernel_rfl
theorem c65 : funB Try.prog num Try.f67 A_xref06_co = true := by kernel_rfl
theorem c66 : funB Try.prog num Try.f68 A_xref06_rmw = true := by kernel_rfl
theorem c67 : funB Try.prog num Try.f69 A_xref06_deps = true := by kernel_rfl
theorem c68 : funB Try.prog num Try.f70 A_xlaw09_same = true := by kernel_rfl
theorem c69 : funB Try.prog num Try.f71 A_xref09_Rf = true := by kernel_rfl
theorem c70 : funB Try.prog num Try.f72 A_xref09_Co = true := by kernel_rfl
theorem c71 : funB Try.prog num Try.f73 A_xref09_Fr = true := by kernel_rfl
theorem c72 : funB Try.prog num Try.f74 A_xref09_Eco = true := by kernel_rfl
theorem c73 : funB Try.prog num Try.f75 A_xref09_Loc = true := by kernel_rfl
theorem c74 : funB Try.prog num Try.f76 A_xref09_Inner = true := by kernel_rfl
theorem c75 : funB Try.prog num Try.f77 A_xref09_Outer = true := by kernel_rfl
theorem c80 : funB Try.prog num Try.f82 A_eco_pairs = true := by kernel_rfl
theorem c81 : funB Try.prog num Try.f83 A_graph_Of = true := by kernel_rfl
theorem c82 : funB Try.prog num Try.f84 A_xref06_rising = true := by kernel_rfl
theorem c83 : funB Try.prog num Try.f85 A_xref09_Com = true := by kernel_rfl
theorem c84 : funB Try.prog num Try.f86 A_xref06_Po = true := by kernel_rfl
theorem c85 : funB Try.prog num Try.f87 A_xref09_part = true := by kernel_rfl
theorem c92 : funB Try.prog num Try.f94 A_eco_pairs_1 = true := by kernel_rfl
theorem c93 : funB Try.prog num Try.f95 A_eco_pairs_2 = true := by kernel_rfl
theorem c94 : funB Try.prog num Try.f96 A_eco_pairs_3 = true := by kernel_rfl
theorem c95 : funB Try.prog num Try.f97 A_eco_pairs_4 = true := by kernel_rfl
theorem c96 : funB Try.prog num Try.f98 A_eco_pairs_5 = true := by kernel_rfl
def Good (r : Nat × Nat × AFun) : Prop := num r.1 = r.2.1 ∧ ∃ fn, Try.prog.funcs[r.2.1]? = some fn ∧ funB Try.prog num fn r.2.2 = true
theorem good : ∀ r ∈ tab, Good r := by
  intro r hr
  unfold tab at hr
  rcases List.mem_cons.1 hr with rfl | hr
  · exact ⟨by kernel_rfl, _, Try.func8, c6⟩
  rcases List.mem_cons.1 hr with rfl | hr
  · exact ⟨by kernel_rfl, _, Try.func13, c11⟩
  rcases List.mem_cons.1 hr with rfl | hr
  · exact ⟨by kernel_rfl, _, Try.func14, c12⟩
  rcases List.mem_cons.1 hr with rfl | hr
  · exact ⟨by kernel_rfl, _, Try.func15, c13⟩
  rcases List.mem_cons.1 hr with rfl | hr
  · exact ⟨by kernel_rfl, _, Try.func16, c14⟩
  rcases List.mem_cons.1 hr with rfl | hr
  · exact ⟨by kernel_rfl, _, Try.func17, c15⟩
  rcases List.mem_cons.1 hr with rfl | hr
  · exact ⟨by kernel_rfl, _, Try.func18, c16⟩
  rcases List.mem_cons.1 hr with rfl | hr
  · exact ⟨by kernel_rfl, _, Try.func19, c17⟩
  rcases List.mem_cons.1 hr with rfl | hr
  · exact ⟨by kernel_rfl, _, Try.func20, c18⟩
  rcases List.mem_cons.1 hr with rfl | hr
  · exact ⟨by kernel_rfl, _, Try.func24, c22⟩
  rcases List.mem_cons.1 hr with rfl | hr
  · exact ⟨by kernel_rfl, _, Try.func25, c23⟩
  rcases List.mem_cons.1 hr with rfl | hr
  · exact ⟨by kernel_rfl, _, Try.func26, c24⟩
  rcases List.mem_cons.1 hr with rfl | hr
  · exact ⟨by kernel_rfl, _, Try.func27, c25⟩
  rcases List.mem_cons.1 hr with rfl | hr
  · exact ⟨by kernel_rfl, _, Try.func28, c26⟩
  rcases List.mem_cons.1 hr with rfl | hr
  · exact ⟨by kernel_rfl, _, Try.func29, c27⟩
  rcases List.mem_cons.1 hr with rfl | hr
  · exact ⟨by kernel_rfl, _, Try.func31, c29⟩
  rcases List.mem_cons.1 hr with rfl | hr
  · exact ⟨by kernel_rfl, _, Try.func32, c30⟩
  rcases List.mem_cons.1 hr with rfl | hr
  · exact ⟨by kernel_rfl, _, Try.func33, c31⟩
  rcases List.mem_cons.1 hr with rfl | hr
  · exact ⟨by kernel_rfl, _, Try.func34, c32⟩
  rcases List.mem_cons.1 hr with rfl | hr
  · exact ⟨by kernel_rfl, _, Try.func35, c33⟩
  rcases List.mem_cons.1 hr with rfl | hr
  · exact ⟨by kernel_rfl, _, Try.func36, c34⟩
  rcases List.mem_cons.1 hr with rfl | hr
  · exact ⟨by kernel_rfl, _, Try.func37, c35⟩
  rcases List.mem_cons.1 hr with rfl | hr
  · exact ⟨by kernel_rfl, _, Try.func38, c36⟩
  rcases List.mem_cons.1 hr with rfl | hr
  · exact ⟨by kernel_rfl, _, Try.func39, c37⟩
  rcases List.mem_cons.1 hr with rfl | hr
  · exact ⟨by kernel_rfl, _, Try.func40, c38⟩
  rcases List.mem_cons.1 hr with rfl | hr
  · exact ⟨by kernel_rfl, _, Try.func41, c39⟩
  rcases List.mem_cons.1 hr with rfl | hr
  · exact ⟨by kernel_rfl, _, Try.func42, c40⟩
  rcases List.mem_cons.1 hr with rfl | hr
  · exact ⟨by kernel_rfl, _, Try.func43, c41⟩
  rcases List.mem_cons.1 hr with rfl | hr
  · exact ⟨by kernel_rfl, _, Try.func44, c42⟩
  rcases List.mem_cons.1 hr with rfl | hr
  · exact ⟨by kernel_rfl, _, Try.func45, c43⟩
  rcases List.mem_cons.1 hr with rfl | hr
  · exact ⟨by kernel_rfl, _, Try.func46, c44⟩
  rcases List.mem_cons.1 hr with rfl | hr
  · exact ⟨by kernel_rfl, _, Try.func47, c45⟩
  rcases List.mem_cons.1 hr with rfl | hr
  · exact ⟨by kernel_rfl, _, Try.func48, c46⟩
  rcases List.mem_cons.1 hr with rfl | hr
  · exact ⟨by kernel_rfl, _, Try.func50, c48⟩
  rcases List.mem_cons.1 hr with rfl | hr
  · exact ⟨by kernel_rfl, _, Try.func51, c49⟩
  rcases List.mem_cons.1 hr with rfl | hr
  · exact ⟨by kernel_rfl, _, Try.func52, c50⟩
  rcases List.mem_cons.1 hr with rfl | hr
  · exact ⟨by kernel_rfl, _, Try.func53, c51⟩
  rcases List.mem_cons.1 hr with rfl | hr
  · exact ⟨by kernel_rfl, _, Try.func54, c52⟩
  rcases List.mem_cons.1 hr with rfl | hr
  · exact ⟨by kernel_rfl, _, Try.func55, c53⟩
  rcases List.mem_cons.1 hr with rfl | hr
  · exact ⟨by kernel_rfl, _, Try.func56, c54⟩
  rcases List.mem_cons.1 hr with rfl | hr
  · exact ⟨by kernel_rfl, _, Try.func57, c55⟩
  rcases List.mem_cons.1 hr with rfl | hr
  · exact ⟨by kernel_rfl, _, Try.func58, c56⟩
  rcases List.mem_cons.1 hr with rfl | hr
  · exact ⟨by kernel_rfl, _, Try.func59, c57⟩
  rcases List.mem_cons.1 hr with rfl | hr
  · exact ⟨by kernel_rfl, _, Try.func60, c58⟩
  rcases List.mem_cons.1 hr with rfl | hr
  · exact ⟨by kernel_rfl, _, Try.func61, c59⟩
  rcases List.mem_cons.1 hr with rfl | hr
  · exact ⟨by kernel_rfl, _, Try.func62, c60⟩
  rcases List.mem_cons.1 hr with rfl | hr
  · exact ⟨by kernel_rfl, _, Try.func63, c61⟩
  rcases List.mem_cons.1 hr with rfl | hr
  · exact ⟨by kernel_rfl, _, Try.func64, c62⟩
  rcases List.mem_cons.1 hr with rfl | hr
  · exact ⟨by kernel_rfl, _, Try.func65, c63⟩
  rcases List.mem_cons.1 hr with rfl | hr
  · exact ⟨by kernel_rfl, _, Try.func66, c64⟩
  rcases List.mem_cons.1 hr with rfl | hr
  · exact ⟨by kernel_rfl, _, Try.func67, c65⟩
  rcases List.mem_cons.1 hr with rfl | hr
  · exact ⟨by kernel_rfl, _, Try.func68, c66⟩
  rcases List.mem_cons.1 hr with rfl | hr
  · exact ⟨by kernel_rfl, _, Try.func69, c67⟩
  rcases List.mem_cons.1 hr with rfl | hr
  · exact ⟨by kernel_rfl, _, Try.func70, c68⟩
  rcases List.mem_cons.1 hr with rfl | hr
  · exact ⟨by kernel_rfl, _, Try.func71, c69⟩
  rcases List.mem_cons.1 hr with rfl | hr
  · exact ⟨by kernel_rfl, _, Try.func72, c70⟩
  rcases List.mem_cons.1 hr with rfl | hr
  · exact ⟨by kernel_rfl, _, Try.func73, c71⟩
  rcases List.mem_cons.1 hr with rfl | hr
  · exact ⟨by kernel_rfl, _, Try.func74, c72⟩
  rcases List.mem_cons.1 hr with rfl | hr
  · exact ⟨by kernel_rfl, _, Try.func75, c73⟩
  rcases List.mem_cons.1 hr with rfl | hr
  · exact ⟨by kernel_rfl, _, Try.func76, c74⟩
  rcases List.mem_cons.1 hr with rfl | hr
  · exact ⟨by kernel_rfl, _, Try.func77, c75⟩
  rcases List.mem_cons.1 hr with rfl | hr
  · exact ⟨by kernel_rfl, _, Try.func82, c80⟩
  rcases List.mem_cons.1 hr with rfl | hr
  · exact ⟨by kernel_rfl, _, Try.func83, c81⟩
  rcases List.mem_cons.1 hr with rfl | hr
  · exact ⟨by kernel_rfl, _, Try.func84, c82⟩
  rcases List.mem_cons.1 hr with rfl | hr
  · exact ⟨by kernel_rfl, _, Try.func85, c83⟩
  rcases List.mem_cons.1 hr with rfl | hr
  · exact ⟨by kernel_rfl, _, Try.func86, c84⟩
  rcases List.mem_cons.1 hr with rfl | hr
  · exact ⟨by kernel_rfl, _, Try.func87, c85⟩
  rcases List.mem_cons.1 hr with rfl | hr
  · exact ⟨by kernel_rfl, _, Try.func94, c92⟩
  rcases List.mem_cons.1 hr with rfl | hr
  · exact ⟨by kernel_rfl, _, Try.func95, c93⟩
  rcases List.mem_cons.1 hr with rfl | hr
  · exact ⟨by kernel_rfl, _, Try.func96, c94⟩
  rcases List.mem_cons.1 hr with rfl | hr
  · exact ⟨by kernel_rfl, _, Try.func97, c95⟩
  rcases List.mem_cons.1 hr with rfl | hr
  · exact ⟨by kernel_rfl, _, Try.func98, c96⟩
  cases hr
theorem table : Table Try.prog num funs := by
  intro f A h
  unfold funs at h
  cases hf : tab.find? (fun r => r.1 == f) with
  | none => rw [hf] at h; cases h
  | some r =>
    rw [hf] at h; cases h
    have h1 := List.find?_some hf
    simp only [beq_iff_eq] at h1
    subst h1
    obtain ⟨h2, h3⟩ := good r (List.mem_of_find?_eq_some hf)
    rw [h2]; exact h3
theorem pk_eco : Pk_eco funs := ⟨rfl, rfl, rfl, rfl, rfl, rfl, rfl, rfl, rfl, rfl, rfl, rfl, rfl, rfl, rfl, rfl, rfl⟩
theorem pk_xref01 : Pk_xref01 funs := ⟨rfl, rfl, rfl, rfl, rfl, rfl, rfl, rfl, rfl, rfl, rfl, rfl, rfl⟩
theorem pk_xref06 : Pk_xref06 funs := ⟨rfl, rfl, rfl, rfl, rfl, rfl, rfl, rfl⟩
theorem pk_xref09 : Pk_xref09 funs := ⟨rfl, rfl, rfl, rfl, rfl, rfl, rfl, rfl, rfl⟩
theorem pk_rel : Pk_rel funs := ⟨rfl, rfl, rfl, rfl, rfl, rfl, rfl, rfl, rfl, rfl, rfl, rfl, rfl, rfl, rfl, rfl, rfl⟩
end Go.Proofs.Ytfhinaopoffcnaa
end
section
/- Of a graph that may be: Eco, Loc, Inner, Outer are the document's; 'same', 'all' of exegesislaw09. -/
set_option linter.unusedVariables false
set_option linter.unusedSimpArgs false
namespace Go.Ab
variable {F : Funs}
theorem opM_out (φ : Bool → Bool → Bool) (A B : Mx) (N a b : Nat) (h : ¬ (a < N ∧ b < N)) : opM φ A B N a b = false := by
  unfold opM stM; rw [if_neg (by omega)]
theorem partR_get {X : Gr} {so : Ev → Ev → Bool} {n : Nat} {R : Rw} (hN : nOf X = X.evs.length) (hR : Wf n R) (hn : n = X.evs.length) {a b : Nat} (ha : a < X.evs.length) (hb' : b < X.evs.length) : hb (partR so X n R) a b = (hb R a b && so (X.evs.getD a ev0) (X.evs.getD b ev0)) := by
  have h40 := nOf_le X
  unfold partR
  rw [hN] at h40 ⊢
  rw [hb_newM h40 _ ha hb', Bool.eq_iff_iff, anyM_mem, List.mem_filter, Bool.and_eq_true]
  have hok : okP so X ((a : Int), (b : Int)) = so (X.evs.getD a ev0) (X.evs.getD b ev0) := by
    unfold okP
    have h1 : ((a : Nat) : Int) < X.evs.length := by omega
    have h2 : ((b : Nat) : Int) < X.evs.length := by omega
    simp only [h1, h2, decide_true, Bool.true_and, Int.toNat_natCast]
  rw [hok]
  constructor
  · rintro ⟨hp, hs⟩
    obtain ⟨x, y, he, hh⟩ := mem_pairsR.1 hp
    injection he with e1 e2
    have e1 : a = x := by omega
    have e2 : b = y := by omega
    subst e1 e2
    rw [hN_wf hR] at hh
    exact ⟨hh, hs⟩
  · rintro ⟨hh, hs⟩
    exact ⟨mem_pairsR.2 ⟨a, b, rfl, by rw [hN_wf hR]; exact hh⟩, hs⟩
section
variable {X : Gr} (h : GraphOk X)
include h
theorem wf_E (stp) : Wf X.evs.length (relE stp X) := by unfold relE; rw [h.nOf]; exact wf_new h.n40 _
theorem eco_get {a b : Nat} (ha : a < X.evs.length) (hb' : b < X.evs.length) : plM X.evs.length (comM X.evs.length (anyM (rfL X X.rf.length)) (anyM (coX X X.co.length))) X.evs.length a b = hb (ecoR X) a b := by
  have w : Wf X.evs.length (orR (orR (relE rfS X) (relE (coS X.co) X)) (relE (frS X.co) X)) := wf_or (wf_or (wf_E h _) (wf_E h _)) (wf_E h _)
  have e : Eqv (comM X.evs.length (anyM (rfL X X.rf.length)) (anyM (coX X X.co.length))) (orR (orR (relE rfS X) (relE (coS X.co) X)) (relE (frS X.co) X)) := by
    intro a b
    by_cases hab : a < X.evs.length ∧ b < X.evs.length
    · unfold comM
      rw [opM_get _ _ _ _ _ _ hab.1 hab.2, opM_get _ _ _ _ _ _ hab.1 hab.2, hb_or, hb_or, rf_get h hab.1 hab.2, co_get h hab.1 hab.2, fr_get h hab.1 hab.2]
    · unfold comM
      rw [opM_out _ _ _ _ _ _ hab]
      symm
      rw [Bool.eq_false_iff]
      intro hh
      exact hab (w a b hh)
  unfold ecoR
  rw [h.nOf]
  exact plM_get e w _ (Nat.le_refl _) a b ha hb'
theorem th_ge (i : Nat) (hi : i < X.evs.length) : (((i : Int) < X.locs) → thI X i = 0) ∧ (¬ ((i : Int) < X.locs) → 1 ≤ thI X i) := by
  obtain ⟨h1, h2⟩ := h.ev i hi
  exact ⟨fun hl => (h1 hl).1, fun hl => (h2 hl).1⟩
theorem po_get {a b : Nat} (ha : a < X.evs.length) (hb' : b < X.evs.length) : mpoM X a b = hb (poR X) a b := by
  unfold poR; rw [h.nOf, hb_newM h.n40 _ ha hb', Bool.eq_iff_iff, anyM_mem]
  have ga := th_ge h a ha
  have gb := th_ge h b hb'
  have hmem : ((a : Int), (b : Int)) ∈ poK X X.evs.length ↔ poB a b (X.evs.getD a ev0) (X.evs.getD b ev0) = true := by
    simp only [poK, poRow, List.mem_flatMap, List.mem_map, List.mem_filter, List.mem_range]
    constructor
    · rintro ⟨x, hx, y, ⟨hy, hp⟩, he⟩
      injection he with e1 e2
      have e1 : x = a := by omega
      have e2 : y = b := by omega
      subst e1 e2
      exact hp
    · intro hp; exact ⟨a, ha, b, ⟨hb', hp⟩, rfl⟩
  rw [hmem]
  unfold mpoM stU poV poB
  unfold thI at *
  generalize (X.evs.getD a ev0).th = ta at *
  generalize (X.evs.getD b ev0).th = tb at *
  by_cases hab : a < b
  · rw [if_pos (.inl ⟨ha, hab, hb'⟩)]
    simp only [Bool.or_eq_true, Bool.and_eq_true, beq_iff_eq, decide_eq_true_eq, bne_iff_ne, ne_eq]
    by_cases l1 : (a : Int) < X.locs <;> by_cases l2 : (b : Int) < X.locs
    · have := ga.1 l1; have := gb.1 l2; omega
    · have := ga.1 l1; have := gb.2 l2; omega
    · omega
    · have := ga.2 l1; have := gb.2 l2; omega
  · rw [if_neg (by omega)]
    simp only [Bool.or_eq_true, Bool.and_eq_true, beq_iff_eq, decide_eq_true_eq, bne_iff_ne, ne_eq]
    by_cases l1 : (a : Int) < X.locs <;> by_cases l2 : (b : Int) < X.locs
    · have := ga.1 l1; have := gb.1 l2; simp; omega
    · omega
    · have := ga.2 l1; have := gb.1 l2; simp; omega
    · have := ga.2 l1; have := gb.2 l2; simp; omega
theorem wf_po : Wf X.evs.length (poR X) := by unfold poR; rw [h.nOf]; exact wf_new h.n40 _
theorem loc_get {a b : Nat} (ha : a < X.evs.length) (hb' : b < X.evs.length) : locM X a b = hb (partR locP X X.evs.length (poR X)) a b := by
  rw [partR_get h.nOf (wf_po h) rfl ha hb', ← po_get h ha hb']
  unfold locM stK
  rw [if_pos (.inl ⟨ha, hb'⟩)]
  congr 1
  unfold locV locP
  rw [Bool.and_assoc]
theorem inner_get (l : List (Int × Int)) {a b : Nat} (ha : a < X.evs.length) (hb' : b < X.evs.length) : prtM X true (newM X.evs.length l) a b = hb (partR inner X X.evs.length (newR X.evs.length l)) a b := by
  rw [partR_get h.nOf (wf_new h.n40 _) rfl ha hb']
  unfold prtM
  rw [opM_get _ _ _ _ _ _ ha hb', eqv_new h.n40 l a b]
  unfold thV thI inner
  cases ((X.evs.getD a ev0).th == (X.evs.getD b ev0).th) <;> rfl
theorem outer_get (l : List (Int × Int)) {a b : Nat} (ha : a < X.evs.length) (hb' : b < X.evs.length) : prtM X false (newM X.evs.length l) a b = hb (partR outer X X.evs.length (newR X.evs.length l)) a b := by
  rw [partR_get h.nOf (wf_new h.n40 _) rfl ha hb']
  unfold prtM
  rw [opM_get _ _ _ _ _ _ ha hb', eqv_new h.n40 l a b]
  unfold thV thI outer bne
  cases ((X.evs.getD a ev0).th == (X.evs.getD b ev0).th) <;> rfl
end
theorem pairsR_len40 {n : Nat} (hn : n ≤ 40) (R : Rw) : (pairsR n R).length < 9000000000000000000 := by
  have := pairsR_len hn R; omega
set_option maxRecDepth 100000 in
theorem sp_same9 (h68 : F 68 = some A_xlaw09_same) (h55 : F 55 = some A_xref01_SamePairs) (h56 : F 56 = some A_xref01_R_Pairs) (pr : Pk_rel F) {n : Nat} (hn : n ≤ 40) {M : Mx} {R : Rw} (hM : ∀ a b, a < n → b < n → M a b = hb R a b) : pureS F 68 [.ptr (relC n R), .ptr (matC n M)] = some (.b true) := by
  refine pure_of h68 ?_
  have h1 := sp_mpairs h56 hn M R (same_of hM)
  have h2 := sp_samePairs h55 (pairsR n R) (pairsR_len40 hn R) .non .non
  simp (disch := omega) only [A_xlaw09_same, wp, Nat.reduceAdd, Nat.reduceMul, Nat.reduceSub, gl, rl, ml, sp_len pr, sp_pairs pr hn, h1, h2]
set_option maxRecDepth 100000 in
set_option maxHeartbeats 4000000 in
theorem sp_all9 (h46 : F 46 = some A_xlaw09_all) (h68 : F 68 = some A_xlaw09_same) (pe : Pk_eco F) (h60 : F 60 = some A_graph_Po) (h81 : F 81 = some A_graph_Of) (pr : Pk_rel F) (px : Pk_xref01 F) (p9 : Pk_xref09 F) (h84 : F 84 = some A_xref06_Po) {X : Gr} (hX : FewG X) (h : GraphOk X) (l : List (Int × Int)) (t : Tok) (hl : l.length ≤ 1000) : pureS F 46 [.agg (grC X), .sl (pairsC l) l.length t] = some (.b true) := by
  refine pure_of h46 ?_
  have n40 := h.n40
  have hN := h.nOf
  have hf := hX.few
  have a1 := sp_Rf pe h81 pr hf
  have a2 := sp_Co pe h81 pr hf
  have a3 := sp_Fr pe h81 pr hf
  have a4 := sp_Eco pe h81 pr hf
  have a5 := sp_Loc pe h60 h81 pr (X := X) (by omega)
  have a6 := fun R => sp_Inner pe h81 pr (X := X) (n := X.evs.length) n40 R
  have a7 := fun R => sp_Outer pe h81 pr (X := X) (n := X.evs.length) n40 R
  rw [hN] at a1 a2 a3 a4 a5 a6 a7
  have hrl := h.rfl
  have b1 := sp_mRf p9.xref09_Rf px.xref01_New (X := X) n40 (by omega) (fun i hi => by have := (h.rfr i (by omega)).2; omega)
  have b2 := sp_mCo p9.xref09_Co px.xref01_New (X := X) n40 (by have := hX.co; omega) (fun j hj => by
    have hm : X.co.getD j [] ∈ X.co := by
      rw [List.getD_eq_getElem?_getD, List.getElem?_eq_getElem hj]; exact List.getElem_mem hj
    have := hX.cos _ hm
    exact ⟨by omega, fun i hi => by have := h.cor j hj i hi; omega⟩)
  have b3 := sp_mFr p9.xref09_Fr px.xref01_New px.xref01_R_Then px.xref01_R_Back n40 b1 b2
  have b0 := sp_mCom p9.xref09_Com px.xref01_New px.xref01_R_Or n40 b1 b2 b3
  have b4 := sp_mEco p9.xref09_Eco px.xref01_New px.xref01_R_Plus n40 b0
  have b5 := sp_mLoc p9.xref09_Loc h84 px.xref01_New (X := X) n40
  have b6 := fun A => sp_mInner p9.xref09_Inner p9.xref09_part px.xref01_New (X := X) n40 A
  have b7 := fun A => sp_mOuter p9.xref09_Outer p9.xref09_part px.xref01_New (X := X) n40 A
  have c1 := sp_same9 h68 px.xref01_SamePairs px.xref01_R_Pairs pr n40 (fun a b ha hb' => rf_get h ha hb')
  have c2 := sp_same9 h68 px.xref01_SamePairs px.xref01_R_Pairs pr n40 (fun a b ha hb' => co_get h ha hb')
  have c3 := sp_same9 h68 px.xref01_SamePairs px.xref01_R_Pairs pr n40 (fun a b ha hb' => fr_get h ha hb')
  have c4 := sp_same9 h68 px.xref01_SamePairs px.xref01_R_Pairs pr n40 (fun a b ha hb' => eco_get h ha hb')
  have c5 := sp_same9 h68 px.xref01_SamePairs px.xref01_R_Pairs pr n40 (fun a b ha hb' => loc_get h ha hb')
  have c6 := sp_same9 h68 px.xref01_SamePairs px.xref01_R_Pairs pr n40 (fun a b ha hb' => inner_get h l ha hb')
  have c7 := sp_same9 h68 px.xref01_SamePairs px.xref01_R_Pairs pr n40 (fun a b ha hb' => outer_get h l ha hb')
  have d1 := sp_new pr (X.evs.length : Int) l .non (by omega)
  have d2 := sp_newM px.xref01_New (X.evs.length : Int) l .non (by omega)
  rw [show clamp (X.evs.length : Int) = X.evs.length by unfold clamp; omega] at d1 d2
  simp (disch := omega) only [A_xlaw09_all, wp, Nat.reduceAdd, Nat.reduceMul, Nat.reduceSub, gl, a1, a2, a3, a4, a5, a6, a7, b1, b2, b3, b4, b5, b6, b7, c1, c2, c3, c4, c5, c6, c7, d1, d2]
end Go.Ab
end
section
/- exegesislaw09.EcoAny: the walk. -/
set_option linter.unusedVariables false
set_option linter.unusedSimpArgs false
namespace Go.Ab
variable {F : Funs}
set_option maxRecDepth 100000 in
set_option maxHeartbeats 4000000 in
theorem sp_ecoAny (h6 : F 6 = some A_xlaw09_EcoAny) (h44 : F 44 = some A_xlaw00_FewGraph) (p6 : Pk_xref06 F) (h46 : F 46 = some A_xlaw09_all) (h68 : F 68 = some A_xlaw09_same) (hA : F 43 = some A_xlaw09_awake) (h62 : F 62 = some A_xlaw09_two) (pe : Pk_eco F) (h60 : F 60 = some A_graph_Po) (h81 : F 81 = some A_graph_Of) (pr : Pk_rel F) (px : Pk_xref01 F) (p9 : Pk_xref09 F)
    (X : Gr) (l : List (Int × Int)) (t : Tok) : pureS F 6 [.agg (grC X), .sl (pairsC l) l.length t] = some (.b true) := by
  refine pure_of h6 ?_
  have aw := sp_awakeE hA h62 pe h60 h81 pr
  obtain ⟨b1, e1, p1⟩ := sp_fewGraph h44 X
  cases b1
  case false => simp (disch := omega) only [A_xlaw09_EcoAny, wp, Nat.reduceAdd, Nat.reduceMul, Nat.reduceSub, gl, e1, aw]
  have hX := p1 rfl
  by_cases hl : (200 : Int) < l.length
  case pos => simp (disch := omega) only [A_xlaw09_EcoAny, wp, Nat.reduceAdd, Nat.reduceMul, Nat.reduceSub, gl, e1, aw, hl]
  obtain ⟨b2, e2, p2⟩ := sp_check p6.xref06_Check p6.xref06_event p6.xref06_rf p6.xref06_co p6.xref06_rmw p6.xref06_deps p6.xref06_rising hX
  cases b2
  case false => simp (disch := omega) only [A_xlaw09_EcoAny, wp, Nat.reduceAdd, Nat.reduceMul, Nat.reduceSub, gl, e1, aw, hl, e2]
  have h := p2 rfl
  have ha := sp_all9 h46 h68 pe h60 h81 pr px p9 p6.xref06_Po hX h l .non (by omega)
  simp (disch := omega) only [A_xlaw09_EcoAny, wp, Nat.reduceAdd, Nat.reduceMul, Nat.reduceSub, gl, e1, aw, hl, e2, ha]
end Go.Ab
end
