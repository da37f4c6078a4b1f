/- What the functions compute that EcoLine reaches, part 1; lemmas, no claim of its own. -/
import Derived.Test.YtfhinaopoffcnaaChecked
import Derived.KernelRfl
import Derived.Test.YtfhinaopoffcnaaGA
import Derived.Test.YtfhinaopoffcnaaGB
import Derived.Test.YtfhinaopoffcnaaGC
import Derived.Test.YtfhinaopoffcnaaGD
import Derived.Test.YtfhinaopoffcnaaGH
import Derived.Test.YtfhinaopoffcnaaGI
section
/- The functions that are reached, asx resolved, held against the program (written by a program, tab.py). -/
set_option maxRecDepth 100000
set_option linter.unusedVariables false
namespace Go.Proofs.Ytfhinaopoffcnaa
open Go.Ab
def tab : List (Nat × Nat × AFun) := [(5, 7, A_xlaw09_EcoThreads),
 (8, 10, A_xlaw09_EcoLine),
 (10, 12, A_xlaw00_Place),
 (11, 13, A_rel_New),
 (12, 14, A_rel_Rel_Plus),
 (13, 15, A_rel_Rel_Has),
 (14, 16, A_rel_Rel_Loops),
 (15, 17, A_rel_Rel_Pairs),
 (16, 18, A_rel_Rel_Maybe),
 (17, 19, A_rel_Rel_Len),
 (18, 20, A_rel_Rel_And),
 (22, 24, A_rel_Rel_In),
 (23, 25, A_rel_Rel_Then),
 (24, 26, A_rel_Rel_Or),
 (25, 27, A_rel_Rel_Back),
 (26, 28, A_rel_Rel_Less),
 (39, 41, A_eco_Inner),
 (40, 42, A_eco_Outer),
 (41, 43, A_eco_Loc),
 (42, 44, A_eco_Eco),
 (43, 45, A_xlaw09_awake),
 (48, 50, A_eco_Rf),
 (49, 51, A_eco_Co),
 (50, 52, A_eco_Fr),
 (51, 53, A_rel_Rel_by),
 (52, 54, A_rel_Rel_And_1),
 (53, 55, A_rel_Rel_Or_1),
 (54, 56, A_rel_Rel_Less_1),
 (57, 59, A_eco_some),
 (58, 60, A_eco_Inner_1),
 (59, 61, A_eco_Outer_1),
 (60, 62, A_graph_Po),
 (61, 63, A_eco_Loc_1),
 (62, 64, A_xlaw09_two),
 (80, 82, A_eco_pairs),
 (81, 83, A_graph_Of),
 (92, 94, A_eco_pairs_1),
 (93, 95, A_eco_pairs_2),
 (94, 96, A_eco_pairs_3),
 (95, 97, A_eco_pairs_4),
 (96, 98, A_eco_pairs_5)]
def num (f : Nat) : Nat := ((tab.find? (fun r => r.1 == f)).map (·.2.1)).getD 0
def funs : Funs := fun f => (tab.find? (fun r => r.1 == f)).map (·.2.2)
theorem c5 : funB Try.prog num Try.f7 A_xlaw09_EcoThreads = true := by kernel_rfl
theorem c8 : funB Try.prog num Try.f10 A_xlaw09_EcoLine = true := by kernel_rfl
theorem c10 : funB Try.prog num Try.f12 A_xlaw00_Place = true := by kernel_rfl
theorem c11 : funB Try.prog num Try.f13 A_rel_New = true := by kernel_rfl
theorem c12 : funB Try.prog num Try.f14 A_rel_Rel_Plus = true := by kernel_rfl
theorem c13 : funB Try.prog num Try.f15 A_rel_Rel_Has = true := by kernel_rfl
theorem c14 : funB Try.prog num Try.f16 A_rel_Rel_Loops = true := by kernel_rfl
theorem c15 : funB Try.prog num Try.f17 A_rel_Rel_Pairs = true := by kernel_rfl
theorem c16 : funB Try.prog num Try.f18 A_rel_Rel_Maybe = true := by kernel_rfl
theorem c17 : funB Try.prog num Try.f19 A_rel_Rel_Len = true := by kernel_rfl
theorem c18 : funB Try.prog num Try.f20 A_rel_Rel_And = true := by kernel_rfl
theorem c22 : funB Try.prog num Try.f24 A_rel_Rel_In = true := by kernel_rfl
theorem c23 : funB Try.prog num Try.f25 A_rel_Rel_Then = true := by kernel_rfl
theorem c24 : funB Try.prog num Try.f26 A_rel_Rel_Or = true := by kernel_rfl
theorem c25 : funB Try.prog num Try.f27 A_rel_Rel_Back = true := by kernel_rfl
theorem c26 : funB Try.prog num Try.f28 A_rel_Rel_Less = true := by kernel_rfl
theorem c39 : funB Try.prog num Try.f41 A_eco_Inner = true := by kernel_rfl
theorem c40 : funB Try.prog num Try.f42 A_eco_Outer = true := by kernel_rfl
theorem c41 : funB Try.prog num Try.f43 A_eco_Loc = true := by kernel_rfl
theorem c42 : funB Try.prog num Try.f44 A_eco_Eco = true := by kernel_rfl
theorem c43 : funB Try.prog num Try.f45 A_xlaw09_awake = true := by kernel_rfl
theorem c48 : funB Try.prog num Try.f50 A_eco_Rf = true := by kernel_rfl
theorem c49 : funB Try.prog num Try.f51 A_eco_Co = true := by kernel_rfl
theorem c50 : funB Try.prog num Try.f52 A_eco_Fr = true := by kernel_rfl
theorem c51 : funB Try.prog num Try.f53 A_rel_Rel_by = true := by kernel_rfl
theorem c52 : funB Try.prog num Try.f54 A_rel_Rel_And_1 = true := by kernel_rfl
theorem c53 : funB Try.prog num Try.f55 A_rel_Rel_Or_1 = true := by kernel_rfl
theorem c54 : funB Try.prog num Try.f56 A_rel_Rel_Less_1 = true := by kernel_rfl
theorem c57 : funB Try.prog num Try.f59 A_eco_some = true := by kernel_rfl
theorem c58 : funB Try.prog num Try.f60 A_eco_Inner_1 = true := by kernel_rfl
theorem c59 : funB Try.prog num Try.f61 A_eco_Outer_1 = true := by kernel_rfl
theorem c60 : funB Try.prog num Try.f62 A_graph_Po = true := by kernel_rfl
theorem c61 : funB Try.prog num Try.f63 A_eco_Loc_1 = true := by kernel_rfl
theorem c62 : funB Try.prog num Try.f64 A_xlaw09_two = true := by kernel_rfl
theorem c80 : funB Try.prog num Try.f82 A_eco_pairs = true := by kernel_rfl
theorem c81 : funB Try.prog num Try.f83 A_graph_Of = true := by kernel_rfl
theorem c92 : funB Try.prog num Try.f94 A_eco_pairs_1 = true := by kernel_rfl
theorem c93 : funB Try.prog num Try.f95 A_eco_pairs_2 = true := by kernel_rfl
theorem c94 : funB Try.prog num Try.f96 A_eco_pairs_3 = true := by kernel_rfl
theorem c95 : funB Try.prog num Try.f97 A_eco_pairs_4 = true := by kernel_rfl
theorem c96 : funB Try.prog num Try.f98 A_eco_pairs_5 = true := by kernel_rfl
def Good (r : Nat × Nat × AFun) : Prop := num r.1 = r.2.1 ∧ ∃ fn, Try.prog.funcs[r.2.1]? = some fn ∧ funB Try.prog num fn r.2.2 = true
theorem good : ∀ r ∈ tab, Good r := by
  intro r hr
  unfold tab at hr
  rcases List.mem_cons.1 hr with rfl | hr
  · exact ⟨by kernel_rfl, _, Try.func7, c5⟩
  rcases List.mem_cons.1 hr with rfl | hr
  · exact ⟨by kernel_rfl, _, Try.func10, c8⟩
  rcases List.mem_cons.1 hr with rfl | hr
  · exact ⟨by kernel_rfl, _, Try.func12, c10⟩
  rcases List.mem_cons.1 hr with rfl | hr
  · exact ⟨by kernel_rfl, _, Try.func13, c11⟩
  rcases List.mem_cons.1 hr with rfl | hr
  · exact ⟨by kernel_rfl, _, Try.func14, c12⟩
  rcases List.mem_cons.1 hr with rfl | hr
  · exact ⟨by kernel_rfl, _, Try.func15, c13⟩
  rcases List.mem_cons.1 hr with rfl | hr
  · exact ⟨by kernel_rfl, _, Try.func16, c14⟩
  rcases List.mem_cons.1 hr with rfl | hr
  · exact ⟨by kernel_rfl, _, Try.func17, c15⟩
  rcases List.mem_cons.1 hr with rfl | hr
  · exact ⟨by kernel_rfl, _, Try.func18, c16⟩
  rcases List.mem_cons.1 hr with rfl | hr
  · exact ⟨by kernel_rfl, _, Try.func19, c17⟩
  rcases List.mem_cons.1 hr with rfl | hr
  · exact ⟨by kernel_rfl, _, Try.func20, c18⟩
  rcases List.mem_cons.1 hr with rfl | hr
  · exact ⟨by kernel_rfl, _, Try.func24, c22⟩
  rcases List.mem_cons.1 hr with rfl | hr
  · exact ⟨by kernel_rfl, _, Try.func25, c23⟩
  rcases List.mem_cons.1 hr with rfl | hr
  · exact ⟨by kernel_rfl, _, Try.func26, c24⟩
  rcases List.mem_cons.1 hr with rfl | hr
  · exact ⟨by kernel_rfl, _, Try.func27, c25⟩
  rcases List.mem_cons.1 hr with rfl | hr
  · exact ⟨by kernel_rfl, _, Try.func28, c26⟩
  rcases List.mem_cons.1 hr with rfl | hr
  · exact ⟨by kernel_rfl, _, Try.func41, c39⟩
  rcases List.mem_cons.1 hr with rfl | hr
  · exact ⟨by kernel_rfl, _, Try.func42, c40⟩
  rcases List.mem_cons.1 hr with rfl | hr
  · exact ⟨by kernel_rfl, _, Try.func43, c41⟩
  rcases List.mem_cons.1 hr with rfl | hr
  · exact ⟨by kernel_rfl, _, Try.func44, c42⟩
  rcases List.mem_cons.1 hr with rfl | hr
  · exact ⟨by kernel_rfl, _, Try.func45, c43⟩
  rcases List.mem_cons.1 hr with rfl | hr
  · exact ⟨by kernel_rfl, _, Try.func50, c48⟩
  rcases List.mem_cons.1 hr with rfl | hr
  · exact ⟨by kernel_rfl, _, Try.func51, c49⟩
  rcases List.mem_cons.1 hr with rfl | hr
  · exact ⟨by kernel_rfl, _, Try.func52, c50⟩
  rcases List.mem_cons.1 hr with rfl | hr
  · exact ⟨by kernel_rfl, _, Try.func53, c51⟩
  rcases List.mem_cons.1 hr with rfl | hr
  · exact ⟨by kernel_rfl, _, Try.func54, c52⟩
  rcases List.mem_cons.1 hr with rfl | hr
  · exact ⟨by kernel_rfl, _, Try.func55, c53⟩
  rcases List.mem_cons.1 hr with rfl | hr
  · exact ⟨by kernel_rfl, _, Try.func56, c54⟩
  rcases List.mem_cons.1 hr with rfl | hr
  · exact ⟨by kernel_rfl, _, Try.func59, c57⟩
  rcases List.mem_cons.1 hr with rfl | hr
  · exact ⟨by kernel_rfl, _, Try.func60, c58⟩
  rcases List.mem_cons.1 hr with rfl | hr
  · exact ⟨by kernel_rfl, _, Try.func61, c59⟩
  rcases List.mem_cons.1 hr with rfl | hr
  · exact ⟨by kernel_rfl, _, Try.func62, c60⟩
  rcases List.mem_cons.1 hr with rfl | hr
  · exact ⟨by kernel_rfl, _, Try.func63, c61⟩
  rcases List.mem_cons.1 hr with rfl | hr
  · exact ⟨by kernel_rfl, _, Try.func64, c62⟩
  rcases List.mem_cons.1 hr with rfl | hr
  · exact ⟨by kernel_rfl, _, Try.func82, c80⟩
  rcases List.mem_cons.1 hr with rfl | hr
  · exact ⟨by kernel_rfl, _, Try.func83, c81⟩
  rcases List.mem_cons.1 hr with rfl | hr
  · exact ⟨by kernel_rfl, _, Try.func94, c92⟩
  rcases List.mem_cons.1 hr with rfl | hr
  · exact ⟨by kernel_rfl, _, Try.func95, c93⟩
  rcases List.mem_cons.1 hr with rfl | hr
  · exact ⟨by kernel_rfl, _, Try.func96, c94⟩
  rcases List.mem_cons.1 hr with rfl | hr
  · exact ⟨by kernel_rfl, _, Try.func97, c95⟩
  rcases List.mem_cons.1 hr with rfl | hr
  · exact ⟨by kernel_rfl, _, Try.func98, c96⟩
  cases hr
theorem table : Table Try.prog num funs := by
  intro f A h
  unfold funs at h
  cases hf : tab.find? (fun r => r.1 == f) with
  | none => rw [hf] at h; cases h
  | some r =>
    rw [hf] at h; cases h
    have h1 := List.find?_some hf
    simp only [beq_iff_eq] at h1
    subst h1
    obtain ⟨h2, h3⟩ := good r (List.mem_of_find?_eq_some hf)
    rw [h2]; exact h3
theorem pk_eco : Pk_eco funs := ⟨rfl, rfl, rfl, rfl, rfl, rfl, rfl, rfl, rfl, rfl, rfl, rfl, rfl, rfl, rfl, rfl, rfl⟩
theorem pk_rel : Pk_rel funs := ⟨rfl, rfl, rfl, rfl, rfl, rfl, rfl, rfl, rfl, rfl, rfl, rfl, rfl, rfl, rfl, rfl, rfl⟩
end Go.Proofs.Ytfhinaopoffcnaa
end
section
/- exegesislaw09.EcoThreads: the graph of fences, and what holds of it. -/
set_option linter.unusedVariables false
set_option linter.unusedSimpArgs false
namespace Go.Ab
variable {F : Funs}
theorem blk_cut {c rest : ACode} {id : Nat} {e : Env} {g : G} {Q : Out → Env → G → Prop} (M : Env → G → Prop) (h1 : W F c e g (blkQ id (midQ M))) (h2 : ∀ e g, M e g → W F rest e g Q) : W F c e g (blkQ id (thenQ F rest Q)) := by
  refine W_mono h1 fun o e g h => ?_
  cases o with
  | nrm => exact h2 e g h
  | ret => exact h.elim
  | ext n =>
    have h : if n = id then midQ M .nrm e g else midQ M (.ext n) e g := h
    show if n = id then thenQ F rest Q .nrm e g else thenQ F rest Q (.ext n) e g
    by_cases hn : n = id
    · rw [if_pos hn] at h ⊢; exact h2 e g h
    · rw [if_neg hn] at h; exact h.elim
def barE (t : Int) : Ev := ⟨t, 3, 1, 0, 0, false⟩
def wrE : Ev := ⟨0, 2, 0, 0, 0, false⟩
def thrX (bars : List Int) : Gr := ⟨1, wrE :: bars.map barE, -1 :: bars.map (fun _ => -1), [[0]], [], [], [], []⟩
def grT (X : Gr) (t1 t2 : Tok) : List AV := [.i .i64 X.locs, .sl (evsC X.evs) X.evs.length t1, .sl (intsC X.rf) X.rf.length t2, .sl (coC X.co) X.co.length .rig, .sl [] 0 .rig, .sl [] 0 .rig, .sl [] 0 .rig, .sl [] 0 .rig]
theorem gt_evs (X t1 t2) : part (grT X t1 t2) 1 none = some (.sl (evsC X.evs) X.evs.length t1) := rfl
theorem gt_all (X t1 t2) : part (grT X t1 t2) 0 (some 8) = some (.agg (grT X t1 t2)) := rfl
theorem frz_gt (hp) (bars t1 t2) : frz hp depth (.agg (grT (thrX bars) t1 t2)) = some (.agg (grC (thrX bars))) := by
  refine frz_d_agg ?_
  show frzL hp (7 + 1) _ = _
  simp only [grT, frzL, frz]
  rfl
theorem vis_gt (hp) (X t1 t2) : vis hp depth (.agg (grT X t1 t2)) = [] := by
  show vis hp (8 + 1) _ = _
  simp only [vis, grT, List.flatMap_cons, List.flatMap_nil, List.nil_append, List.append_nil]
theorem thr_len (bars) : (thrX bars).evs.length = bars.length + 1 := by simp [thrX]
theorem thr_nOf {bars : List Int} (h : bars.length ≤ 20) : nOf (thrX bars) = bars.length + 1 := by
  unfold nOf; rw [thr_len]; unfold clamp; omega
theorem thr_few {bars : List Int} (h : bars.length ≤ 20) : Few (thrX bars) := by
  refine ⟨by rw [thr_len]; omega, by simp [thrX], ?_⟩
  intro c hc
  simp only [thrX, List.mem_singleton] at hc
  subst hc; decide
theorem thr_kd (bars : List Int) (k : Nat) : (thrX bars).evs.getD k ev0 = ev0 ∨ (thrX bars).evs.getD k ev0 = wrE ∧ k = 0 ∨ ((thrX bars).evs.getD k ev0).kd = 3 := by
  cases k with
  | zero => exact .inr (.inl ⟨rfl, rfl⟩)
  | succ k =>
    show (bars.map barE).getD k ev0 = ev0 ∨ _ ∨ ((bars.map barE).getD k ev0).kd = 3
    by_cases h : k < bars.length
    · refine .inr (.inr ?_)
      rw [List.getD_eq_getElem?_getD, List.getElem?_map, List.getElem?_eq_getElem h]; rfl
    · refine .inl ?_
      rw [List.getD_eq_getElem?_getD, List.getElem?_map, List.getElem?_eq_none (by omega)]; rfl
theorem pairsE_none {stp : Int → Int → Ev → List (Int × Int)} {X : Gr} (h : ∀ k : Nat, k < X.evs.length → stp k (wOf X k) (X.evs.getD k ev0) = []) : pairsE stp X X.evs.length = [] := by
  unfold pairsE
  rw [List.flatMap_eq_nil_iff]
  intro k hk
  exact h k (List.mem_range.1 hk)
theorem thr_rf (bars : List Int) : pairsE rfS (thrX bars) (thrX bars).evs.length = [] := pairsE_none fun k hk => by
  have h := thr_kd bars k
  unfold rfS
  rcases h with h | ⟨h, _⟩ | h <;> rw [h] <;> rfl
theorem thr_fr (bars : List Int) : pairsE (frS (thrX bars).co) (thrX bars) (thrX bars).evs.length = [] := pairsE_none fun k hk => by
  have h := thr_kd bars k
  unfold frS
  rcases h with h | ⟨h, _⟩ | h <;> rw [h] <;> rfl
theorem thr_co (bars : List Int) : pairsE (coS (thrX bars).co) (thrX bars) (thrX bars).evs.length = [] := pairsE_none fun k hk => by
  have h := thr_kd bars k
  unfold coS
  rcases h with h | ⟨h, rfl⟩ | h
  · rw [h]; rfl
  · rw [h]; rfl
  · rw [h]; rfl
theorem pairs_nil {n : Nat} {R : Rw} (h : ∀ a b, hN n R a b = false) : pairsR n R = [] := by
  rw [List.eq_nil_iff_forall_not_mem]
  intro p hp
  obtain ⟨a, b, _, hh⟩ := mem_pairsR.1 hp
  rw [h] at hh; cases hh
theorem thr_eco {bars : List Int} (h : bars.length ≤ 20) : pairsR (nOf (thrX bars)) (ecoR (thrX bars)) = [] := by
  have hn := nOf_le (thrX bars)
  have w0 := wf_new hn []
  have hw := wf_or (wf_or w0 w0) w0
  refine pairs_nil fun a b => ?_
  unfold ecoR relE
  rw [thr_rf, thr_co, thr_fr, hN_wf (wf_plus hw), Bool.eq_false_iff]
  intro hh
  rw [hb_plus hw] at hh
  have no : ∀ x y, hb (orR (orR (newR (nOf (thrX bars)) []) (newR (nOf (thrX bars)) [])) (newR (nOf (thrX bars)) [])) x y = false := fun x y => by
    simp only [hb_or, hb_new hn, List.any_nil, Bool.and_false, Bool.or_false]
  induction hh with
  | one h => rw [no] at h; cases h
  | _ => simp_all
theorem thr_loc {bars : List Int} (h : bars.length ≤ 20) : pairsR (nOf (thrX bars)) (partR locP (thrX bars) (nOf (thrX bars)) (poR (thrX bars))) = [] := by
  have hn := nOf_le (thrX bars)
  have key : (pairsR (nOf (thrX bars)) (poR (thrX bars))).filter (okP locP (thrX bars)) = [] := by
    rw [List.filter_eq_nil_iff]
    intro p hp hq
    obtain ⟨a, b, rfl, hh⟩ := mem_pairsR.1 hp
    unfold poR at hh
    rw [hN_wf (wf_new hn _), hb_new hn] at hh
    simp only [Bool.and_eq_true, decide_eq_true_eq, List.any_eq_true] at hh
    obtain ⟨⟨ha, hb'⟩, q, hq1, rfl⟩ := hh
    unfold okP locP at hq
    simp only [Bool.and_eq_true, decide_eq_true_eq, Int.toNat_natCast, bne_iff_ne, ne_eq] at hq
    simp only [poK, poRow, List.mem_flatMap, List.mem_map, List.mem_filter, List.mem_range] at hq1
    obtain ⟨a', ha', b', ⟨hb2, hpo⟩, he⟩ := hq1
    injection he with e1 e2
    have e1 : a' = a := by omega
    have e2 : b' = b := by omega
    subst e1 e2
    have ne0 : ∀ k, k < (thrX bars).evs.length → ((thrX bars).evs.getD k ev0).kd ≠ 3 → k = 0 := by
      intro k hk hkd
      cases k with
      | zero => rfl
      | succ k =>
        exfalso; apply hkd
        rw [thr_len] at hk
        show ((bars.map barE).getD k ev0).kd = 3
        rw [List.getD_eq_getElem?_getD, List.getElem?_map, List.getElem?_eq_getElem (by omega)]; rfl
    have z1 := ne0 a' ha' hq.2.1.1
    have z2 := ne0 b' hb2 hq.2.1.2
    subst z1 z2
    revert hpo
    simp [poB, thrX, wrE]
  unfold partR
  rw [key]
  exact pairs_nil fun a b => by rw [hN_wf (wf_new hn _), hb_new hn]; simp
theorem thr_outer {bars : List Int} (h : bars.length ≤ 20) (p : Int × Int) (hp : p ∈ fullK (bars.length + 1) (bars.length + 1)) : okP outer (thrX bars) p = !okP inner (thrX bars) p := by
  obtain ⟨a, b, ha, hb', rfl⟩ := mem_full.1 hp
  unfold okP
  have h1 : ((a : Nat) : Int) < (thrX bars).evs.length := by rw [thr_len]; omega
  have h2 : ((b : Nat) : Int) < (thrX bars).evs.length := by rw [thr_len]; omega
  simp only [h1, h2, decide_true, Bool.true_and]
  rfl
def cnt (X : Gr) (n a j : Nat) : Nat := ((fullL n a j).filter (okP inner X)).length
theorem cnt_0 (X n a) : cnt X n (a + 1) 0 = cnt X n a n := by unfold cnt; rw [fullL_0, fullL_n]
theorem cnt_succ (X n a j) : cnt X n a (j + 1) = if okP inner X ((a : Int), (j : Int)) then cnt X n a j + 1 else cnt X n a j := by
  unfold cnt
  rw [fullL_succ, List.filter_append, List.filter_cons, List.filter_nil, List.length_append]
  split <;> simp_all
theorem cnt_le (X n a j) : cnt X n a j ≤ a * n + j := by
  unfold cnt; rw [← fullL_len n a j]; exact List.length_filter_le _ _
theorem okP_in {X : Gr} {a b : Nat} (ha : a < X.evs.length) (hb' : b < X.evs.length) : okP inner X ((a : Int), (b : Int)) = ((X.evs.getD a ev0).th == (X.evs.getD b ev0).th) := by
  unfold okP inner
  have h1 : ((a : Nat) : Int) < X.evs.length := by omega
  have h2 : ((b : Nat) : Int) < X.evs.length := by omega
  simp only [h1, h2, decide_true, Bool.true_and, Int.toNat_natCast]
end Go.Ab
end
section
/- exegesislaw09.EcoLine: the graph, and what holds of it. -/
set_option linter.unusedVariables false
set_option linter.unusedSimpArgs false
namespace Go.Ab
variable {F : Funs}
def w1E : Ev := ⟨1, 2, 0, 0, 0, false⟩
def r2E : Ev := ⟨2, 1, 0, 0, 0, false⟩
def coL (k : Nat) : List Int := (List.range (k + 1)).map fun (a : Nat) => (a : Int)
def lnX (k : Nat) (rs : List Int) : Gr := ⟨1, wrE :: (List.replicate k w1E ++ List.replicate rs.length r2E), -1 :: (List.replicate k (-1) ++ rs), [coL k], [], [], [], []⟩
def rdsK (r i : Nat) : List Int := (List.range i).flatMap fun (a : Nat) => List.replicate r (a : Int)
theorem rdsK_succ (r i) : rdsK r (i + 1) = rdsK r i ++ List.replicate r (i : Int) := by simp [rdsK, List.range_succ]
theorem rdsK_len (r i) : (rdsK r i).length = i * r := by
  induction i with
  | zero => simp [rdsK]
  | succ i ih => rw [rdsK_succ, List.length_append, ih, Nat.succ_mul]; simp
def lineX (k r : Nat) : Gr := lnX k (rdsK r (k + 1))
theorem lnX_len (k rs) : (lnX k rs).evs.length = k + 1 + rs.length := by simp [lnX]; omega
def anyP (l : List (Int × Int)) (p : Int × Int) : Bool := l.any fun q => decide (q = p)
theorem pairs_new {n : Nat} (hn : n ≤ 40) (l : List (Int × Int)) : pairsR n (newR n l) = (fullK n n).filter (anyP l) := by
  refine pairs_test fun a b ha hb' => ?_
  rw [hN_wf (wf_new hn _), hb_new hn, decide_eq_true ha, decide_eq_true hb', Bool.true_and, Bool.true_and]; rfl
theorem new_filter {n : Nat} (hn : n ≤ 40) (l : List (Int × Int)) : newR n ((fullK n n).filter (anyP l)) = newR n l := by
  refine rw_ext fun a b _ => ?_
  rw [hb_new hn, hb_new hn, Bool.eq_iff_iff]
  simp only [Bool.and_eq_true, decide_eq_true_eq, List.any_eq_true, List.mem_filter, anyP]
  constructor
  · rintro ⟨h, p, ⟨_, q, hq, rfl⟩, rfl⟩; exact ⟨h, _, hq, rfl⟩
  · rintro ⟨h, p, hp, rfl⟩; exact ⟨h, _, ⟨mem_full.2 ⟨a, b, h.1, h.2, rfl⟩, _, hp, rfl⟩, rfl⟩
def ixL (k r a : Nat) : Nat := if a ≤ k then a else (a - k - 1) / r
def ecoL (k r : Nat) (p : Int × Int) : Bool := decide (ixL k r p.1.toNat < ixL k r p.2.toNat) || (decide (ixL k r p.1.toNat = ixL k r p.2.toNat) && (decide (p.1.toNat ≤ k) && decide (k < p.2.toNat)))
def lineB (k r : Nat) : Bool :=
  let X := lineX k r
  let n := (k + 1) * (r + 1)
  let L1 := pairsE rfS X X.evs.length
  let L2 := pairsE (coS X.co) X X.evs.length
  let L3 := pairsE (frS X.co) X X.evs.length
  let L := L1 ++ L2 ++ L3
  let pk := k * (k + 1) / 2
  ((fullK n n).filter (anyP L1)).length == r * (k + 1) &&
  (((fullK n n).filter (anyP L2)).length == pk &&
  (((fullK n n).filter (anyP L3)).length == r * pk &&
  (((fullK n n).filter (ecoL k r)).length == r * (k + 1) + pk + r * pk + r * pk + r * r * pk &&
  (L.all (ecoL k r) &&
  (((fullK n n).filter (ecoL k r)).all (fun p => anyP L p || (anyP L (p.1, ((ixL k r p.2.toNat : Nat) : Int)) && anyP L (((ixL k r p.2.toNat : Nat) : Int), p.2))) &&
  (((fullK n n).filter (anyP L1)).all (fun p => !okP inner X p) &&
  (((fullK n n).filter (anyP (((fullK n n).filter (anyP L2)).filter (okP outer X)))).length == k)))))))
theorem line_all : ((List.range 6).all fun k => (List.range 3).all fun r => lineB k r) = true := by decide +kernel
theorem line_B {k r : Nat} (hk : k < 6) (hr : r < 3) : lineB k r = true := by
  have h := line_all
  rw [List.all_eq_true] at h
  have h := h k (List.mem_range.2 hk)
  rw [List.all_eq_true] at h
  exact h r (List.mem_range.2 hr)
end Go.Ab
end
section
/- exegesislaw09.EcoLine: from the counts to the relations. -/
set_option linter.unusedVariables false
set_option linter.unusedSimpArgs false
namespace Go.Ab
variable {F : Funs}
theorem line_few {k r : Nat} (hk : k < 6) (hr : r < 3) : Few (lineX k r) := by
  refine ⟨?_, by simp [lineX, lnX], ?_⟩
  · unfold lineX; rw [lnX_len, rdsK_len]
    have : (k + 1) * r ≤ 6 * 2 := Nat.mul_le_mul (by omega) (by omega)
    omega
  · intro c hc
    simp only [lineX, lnX, List.mem_singleton] at hc
    subst hc; simp [coL]; omega
theorem line_len (k r : Nat) : (lineX k r).evs.length = (k + 1) * (r + 1) := by
  unfold lineX; rw [lnX_len, rdsK_len, Nat.mul_succ]; omega
theorem line_nOf {k r : Nat} (hk : k < 6) (hr : r < 3) : nOf (lineX k r) = (k + 1) * (r + 1) := by
  have : (k + 1) * (r + 1) ≤ 6 * 3 := Nat.mul_le_mul (by omega) (by omega)
  unfold nOf; rw [line_len]; unfold clamp; omega
theorem ecoL_trans {k r : Nat} {a b c : Nat} (h1 : ecoL k r ((a : Int), (b : Int)) = true) (h2 : ecoL k r ((b : Int), (c : Int)) = true) : ecoL k r ((a : Int), (c : Int)) = true := by
  simp only [ecoL, Int.toNat_natCast, Bool.or_eq_true, Bool.and_eq_true, decide_eq_true_eq] at h1 h2 ⊢
  omega
theorem ecoL_irr {k r : Nat} (a : Nat) : ecoL k r ((a : Int), (a : Int)) = false := by
  rw [Bool.eq_false_iff]
  simp only [ecoL, Int.toNat_natCast, Bool.or_eq_true, Bool.and_eq_true, decide_eq_true_eq, ne_eq]
  omega
structure LineOk (k r : Nat) : Prop where
  rf : (pairsR (nOf (lineX k r)) (relE rfS (lineX k r))).length = r * (k + 1)
  co : (pairsR (nOf (lineX k r)) (relE (coS (lineX k r).co) (lineX k r))).length = k * (k + 1) / 2
  fr : (pairsR (nOf (lineX k r)) (relE (frS (lineX k r).co) (lineX k r))).length = r * (k * (k + 1) / 2)
  eco : (pairsR (nOf (lineX k r)) (ecoR (lineX k r))).length = r * (k + 1) + k * (k + 1) / 2 + r * (k * (k + 1) / 2) + r * (k * (k + 1) / 2) + r * r * (k * (k + 1) / 2)
  loops : loopsR (nOf (lineX k r)) (ecoR (lineX k r)) = false
  inn : (pairsR (nOf (lineX k r)) (partR inner (lineX k r) (nOf (lineX k r)) (relE rfS (lineX k r)))).length = 0
  out : (pairsR (nOf (lineX k r)) (partR outer (lineX k r) (nOf (lineX k r)) (relE (coS (lineX k r).co) (lineX k r)))).length = k
theorem line_ok {k r : Nat} (hk : k < 6) (hr : r < 3) : LineOk k r := by
  have hB := line_B hk hr
  have hN := line_nOf hk hr
  have hn : (k + 1) * (r + 1) ≤ 40 := by
    have : (k + 1) * (r + 1) ≤ 6 * 3 := Nat.mul_le_mul (by omega) (by omega)
    omega
  unfold lineB at hB
  simp only [Bool.and_eq_true, beq_iff_eq] at hB
  obtain ⟨b1, b2, b3, b4, b5, b6, b7, b8⟩ := hB
  generalize hX : lineX k r = X at *
  generalize h1 : pairsE rfS X X.evs.length = L1 at *
  generalize h2 : pairsE (coS X.co) X X.evs.length = L2 at *
  generalize h3 : pairsE (frS X.co) X X.evs.length = L3 at *
  have e1 : relE rfS X = newR ((k + 1) * (r + 1)) L1 := by unfold relE; rw [hN, h1]
  have e2 : relE (coS X.co) X = newR ((k + 1) * (r + 1)) L2 := by unfold relE; rw [hN, h2]
  have e3 : relE (frS X.co) X = newR ((k + 1) * (r + 1)) L3 := by unfold relE; rw [hN, h3]
  generalize hn' : (k + 1) * (r + 1) = n at *
  have wB : Wf n (orR (orR (newR n L1) (newR n L2)) (newR n L3)) := wf_or (wf_or (wf_new hn _) (wf_new hn _)) (wf_new hn _)
  have base : ∀ a b : Nat, hb (orR (orR (newR n L1) (newR n L2)) (newR n L3)) a b = (decide (a < n) && decide (b < n) && anyP (L1 ++ L2 ++ L3) ((a : Int), (b : Int))) := by
    intro a b
    rw [hb_or, hb_or, hb_new hn, hb_new hn, hb_new hn]
    unfold anyP
    rw [List.any_append, List.any_append]
    cases decide (a < n) <;> cases decide (b < n) <;> simp
  have ixlt : ∀ b, b < n → ixL k r b < n := by
    intro b hb'
    unfold ixL
    split
    · exact hb'
    · exact Nat.lt_of_le_of_lt (Nat.div_le_self _ _) (by omega)
  have plus : ∀ a b : Nat, a < n → b < n → hb (plusR n (orR (orR (newR n L1) (newR n L2)) (newR n L3))) a b = ecoL k r ((a : Int), (b : Int)) := by
    intro a b ha hb'
    rw [Bool.eq_iff_iff, hb_plus wB]
    constructor
    · intro hs
      have : ∀ {a b : Nat}, Steps' (fun a b => hb (orR (orR (newR n L1) (newR n L2)) (newR n L3)) a b = true) a b → ecoL k r ((a : Int), (b : Int)) = true := by
        intro a b hs
        have one : ∀ {a b : Nat}, hb (orR (orR (newR n L1) (newR n L2)) (newR n L3)) a b = true → ecoL k r ((a : Int), (b : Int)) = true := by
          intro a b h
          rw [base] at h
          simp only [Bool.and_eq_true, anyP, List.any_eq_true, decide_eq_true_eq] at h
          obtain ⟨_, q, hq, rfl⟩ := h
          exact List.all_eq_true.1 b5 _ hq
        induction hs with
        | one h => exact one h
        | join _ _ ih1 ih2 => exact ecoL_trans ih1 ih2
      exact this hs
    · intro he
      have := List.all_eq_true.1 b6 _ (List.mem_filter.2 ⟨mem_full.2 ⟨a, b, ha, hb', rfl⟩, he⟩)
      simp only [Bool.or_eq_true, Bool.and_eq_true, Int.toNat_natCast] at this
      rcases this with h | ⟨h, h'⟩
      · refine .one ?_
        rw [base, h, decide_eq_true ha, decide_eq_true hb']; rfl
      · have hi := ixlt b hb'
        refine .join (c := ixL k r b) (.one ?_) (.one ?_)
        · rw [base, h, decide_eq_true ha, decide_eq_true hi]; rfl
        · rw [base, h', decide_eq_true hi, decide_eq_true hb']; rfl
  have ee : ecoR X = plusR n (orR (orR (newR n L1) (newR n L2)) (newR n L3)) := by unfold ecoR; rw [hN, e1, e2, e3]
  have wP := wf_plus wB
  constructor
  · rw [hX, hN, e1, pairs_new hn]; exact b1
  · rw [hX, hN, e2, pairs_new hn]; exact b2
  · rw [hX, hN, e3, pairs_new hn]; exact b3
  · rw [hX, hN, ee, pairs_test (P := ecoL k r) fun a b ha hb' => by rw [hN_wf wP, plus a b ha hb']]; exact b4
  · rw [hX, hN, ee, Bool.eq_false_iff]
    intro hl
    rw [loops_iff wP] at hl
    obtain ⟨a, hs⟩ := hl
    have hs2 := (hb_plus wP a a).2 hs
    have hs3 : hb (plusR n (orR (orR (newR n L1) (newR n L2)) (newR n L3))) a a = true := (plus_plus wB a a).1 hs2
    have ha := (wP a a hs3).1
    rw [plus a a ha ha, ecoL_irr] at hs3
    cases hs3
  · rw [hX, hN, e1]
    unfold partR
    have hf : (pairsR n (newR n L1)).filter (okP inner X) = [] := by
      rw [pairs_new hn]
      exact List.filter_eq_nil_iff.2 fun p hp => by
        have := List.all_eq_true.1 b7 p hp
        simpa using this
    rw [hN, hf, pairs_new hn]
    have : (fullK n n).filter (anyP []) = [] := List.filter_eq_nil_iff.2 fun p _ => by simp [anyP]
    rw [this]; rfl
  · rw [hX, hN, e2]
    unfold partR
    rw [hN, pairs_new hn, pairs_new hn]; exact b8
end Go.Ab
end
section
/- exegesislaw09.EcoLine: the walk. -/
set_option linter.unusedVariables false
set_option linter.unusedSimpArgs false
namespace Go.Ab
variable {F : Funs}
def lnC (X : Gr) (t1 t2 : Tok) : List AV := [.i .i64 X.locs, .sl (evsC X.evs) X.evs.length t1, .sl (intsC X.rf) X.rf.length t2, .ms 11 0 1, .sl [] 0 .rig, .sl [] 0 .rig, .sl [] 0 .rig, .sl [] 0 .rig]
theorem ln_evs (X t1 t2) : part (lnC X t1 t2) 1 none = some (.sl (evsC X.evs) X.evs.length t1) := rfl
theorem ln_rf (X t1 t2) : part (lnC X t1 t2) 2 none = some (.sl (intsC X.rf) X.rf.length t2) := rfl
theorem ln_co (X t1 t2) : part (lnC X t1 t2) 3 none = some (.ms 11 0 1) := rfl
theorem ln_all (X t1 t2) : part (lnC X t1 t2) 0 (some 8) = some (.agg (lnC X t1 t2)) := rfl
theorem ln_len (X t1 t2) : (lnC X t1 t2).length = 8 := rfl
theorem part_3 (a b c d : AV) (l : List AV) : part (a :: b :: c :: d :: l) 3 none = some d := rfl
theorem cellsOf_ms (a b c) : cellsOf (.ms a b c) = [.ms a b c] := rfl
theorem one_ms (a b c) : one (.ms a b c) = true := rfl
theorem frz_lnC (hp) (k rs t1 t2) (t3 : Tok) (ro) (h : hp 11 = some (.cells [.sl (intsC (coL k)) (k + 1) t3] ro)) : frz hp depth (.agg (lnC (lnX k rs) t1 t2)) = some (.agg (grC (lnX k rs))) := by
  refine frz_d_agg ?_
  show frzL hp (7 + 1) _ = _
  have hl : (coL k).length = k + 1 := by simp [coL]
  simp only [lnC, frzL, frz, h, List.drop_zero, Option.map_some, grC, lnX, coC, List.map_cons, List.map_nil, hl]
  rfl
theorem vis_lnC (hp) (k rs t1 t2) (t3 : Tok) (h : hp 11 = some (.cells [.sl (intsC (coL k)) (k + 1) t3] true)) : vis hp depth (.agg (lnC (lnX k rs) t1 t2)) = [] := by
  show vis hp (8 + 1) _ = _
  simp only [vis, lnC, h, List.drop_zero, List.flatMap_cons, List.flatMap_nil, List.nil_append, List.append_nil, if_true]
theorem lnC_w (i t1 t2) : lnC (lnX (i + 1) []) t1 t2 = [.i .i64 (lnX i []).locs, .sl (evsC (lnX i []).evs ++ evC w1E) ((lnX i []).evs.length + 1) t1, .sl (intsC (lnX i []).rf ++ [.i .i64 (-1)]) ((lnX i []).rf.length + 1) t2, .ms 11 0 1, .sl [] 0 .rig, .sl [] 0 .rig, .sl [] 0 .rig, .sl [] 0 .rig] := by
  simp [lnC, lnX, List.replicate_succ', evsC, intsC]
theorem lnC_r (k rs v t1 t2) : lnC (lnX k (rs ++ [v])) t1 t2 = [.i .i64 (lnX k rs).locs, .sl (evsC (lnX k rs).evs ++ evC r2E) ((lnX k rs).evs.length + 1) t1, .sl (intsC (lnX k rs).rf ++ [.i .i64 v]) ((lnX k rs).rf.length + 1) t2, .ms 11 0 1, .sl [] 0 .rig, .sl [] 0 .rig, .sl [] 0 .rig, .sl [] 0 .rig] := by
  simp [lnC, lnX, List.replicate_succ', evsC, intsC]
  omega
theorem coL_succ (i : Nat) : intsC (coL (i + 1)) = intsC (coL i) ++ [.i .i64 ((i + 1 : Nat) : Int)] := by
  simp [coL, List.range_succ, intsC]
theorem coL_len (i : Nat) : (intsC (coL i)).length = i + 1 := by simp [coL, intsC]
def selA (x : Bool) (o : Option AV) : Option AV := if x then o else none
theorem selA_true (o) : selA true o = o := rfl
noncomputable def visS (b : Bool) (l : List Nat) : List Nat := if b then [] else l
theorem visS_true (l) : visS true l = [] := rfl
def Tk2 (g : G) (t1 t2 : Tok) : Prop := (t1 = .rig ∧ t2 = .rig) ∨ ∃ a b, t1 = .own a 6 ∧ t2 = .own b 1 ∧ a ≠ b ∧ g.hp a = some (.tok true) ∧ g.hp b = some (.tok true) ∧ a < g.nx ∧ b < g.nx
def Tk3 (g : G) (t1 t2 t3 : Tok) : Prop := (t1 = .rig ∧ t2 = .rig ∧ t3 = .rig) ∨ ∃ a b c, t1 = .own a 6 ∧ t2 = .own b 1 ∧ t3 = .own c 1 ∧ a ≠ b ∧ a ≠ c ∧ b ≠ c ∧ g.hp a = some (.tok true) ∧ g.hp b = some (.tok true) ∧ g.hp c = some (.tok true) ∧ a < g.nx ∧ b < g.nx ∧ c < g.nx
theorem Tk3.two {g t1 t2 t3} (h : Tk3 g t1 t2 t3) : Tk2 g t1 t2 := by
  rcases h with ⟨h1, h2, _⟩ | ⟨a, b, c, h1, h2, _, h3, _, _, h4, h5, _, h6, h7, _⟩
  · exact .inl ⟨h1, h2⟩
  · exact .inr ⟨a, b, h1, h2, h3, h4, h5, h6, h7⟩
theorem Tk2.on {hp t1 t2} {n m : Nat} (h : Tk2 ⟨hp, n⟩ t1 t2) (hm : n ≤ m) : Tk2 ⟨hp, m⟩ t1 t2 := by
  rcases h with h | ⟨a, b, h1, h2, h3, h4, h5, h6, h7⟩
  · exact .inl h
  · exact .inr ⟨a, b, h1, h2, h3, h4, h5, Nat.lt_of_lt_of_le h6 hm, Nat.lt_of_lt_of_le h7 hm⟩
theorem Tk3.on {hp t1 t2 t3} {n m : Nat} (h : Tk3 ⟨hp, n⟩ t1 t2 t3) (hm : n ≤ m) : Tk3 ⟨hp, m⟩ t1 t2 t3 := by
  rcases h with h | ⟨a, b, c, h1, h2, h0, h3, h8, h9, h4, h5, h10, h6, h7, h11⟩
  · exact .inl h
  · exact .inr ⟨a, b, c, h1, h2, h0, h3, h8, h9, h4, h5, h10, Nat.lt_of_lt_of_le h6 hm, Nat.lt_of_lt_of_le h7 hm, Nat.lt_of_lt_of_le h11 hm⟩
/-- The state behind the loops that build. -/
def LnSt (k r : Nat) (X : Gr) (co : Nat) (t3 : Tok) (t1 t2 : Tok) (e : Env) (g : G) : Prop :=
  e 5 = .i .i64 k ∧ e 6 = .i .i64 r ∧ e 7 = .mp 13 0 ∧ g.hp 13 = some (.cells (lnC X t1 t2) false) ∧ g.hp 11 = some (.cells [.sl (intsC (coL co)) (co + 1) t3] false) ∧ 13 < g.nx
set_option maxRecDepth 100000 in
set_option maxHeartbeats 4000000 in
theorem sp_ecoLine (h8 : F 8 = some A_xlaw09_EcoLine) (hA : F 43 = some A_xlaw09_awake) (h62 : F 62 = some A_xlaw09_two) (h10 : F 10 = some A_xlaw00_Place) (pe : Pk_eco F) (h60 : F 60 = some A_graph_Po) (h81 : F 81 = some A_graph_Of) (pr : Pk_rel F) (n m : Int) :
    pureS F 8 [.i .i64 n, .i .i64 m] = some (.b true) := by
  refine pure_of h8 ?_
  have r5 : ∀ x : AV, List.replicate 5 x = [x, x, x, x, x] := fun _ => rfl
  have r7 : ∀ x : AV, List.replicate 7 x = [x, x, x, x, x, x, x] := fun _ => rfl
  have s6 : ∀ b1 b2 b3 b4 b5 b6 c1 c2 c3 c4 c5 c6 : AV, splice [b1, b2, b3, b4, b5, b6] 0 [c1, c2, c3, c4, c5, c6] = [c1, c2, c3, c4, c5, c6] := fun _ _ _ _ _ _ _ _ _ _ _ _ => rfl
  have s8 : ∀ a1 a2 a3 a4 a5 a6 a7 a8 c1 c2 c3 c4 c5 c6 c7 c8 : AV, splice [a1, a2, a3, a4, a5, a6, a7, a8] 0 [c1, c2, c3, c4, c5, c6, c7, c8] = [c1, c2, c3, c4, c5, c6, c7, c8] := fun _ _ _ _ _ _ _ _ _ _ _ _ _ _ _ _ => rfl
  have hp1 := sp_place h10 (v := n) (n := 6) (by omega) (by omega)
  obtain ⟨q0, q1⟩ := place_lt (v := n) (n := 6) (by omega)
  have hp2 := sp_place h10 (v := m) (n := 3) (by omega) (by omega)
  obtain ⟨p0, p1⟩ := place_lt (v := m) (n := 3) (by omega)
  generalize place n 6 = kk at hp1 q0 q1
  generalize place m 3 = rr at hp2 p0 p1
  obtain ⟨k, rfl⟩ : ∃ k : Nat, kk = k := ⟨kk.toNat, by omega⟩
  obtain ⟨r, rfl⟩ : ∃ r : Nat, rr = r := ⟨rr.toNat, by omega⟩
  have hk : k < 6 := by omega
  have hr : r < 3 := by omega
  simp (disch := omega) only [A_xlaw09_EcoLine, W_skip, W_ext, W_ret, W_seq, thenQ_nrm, thenQ_ext, thenQ_ret, W_cond, selW_true, selW_false, W_blk, blkQ_nrm, blkQ_ret, blkQ_same, blkQ_ne, W_reg, nrmQ_is, WR_nil, WR_cons, selO_true, selO_false, bindO_some, loopQ_nrm, loopQ_ext, loopQ_ret, wanted_none, wanted_some, wantV_1, wantV_0, wantV_undef, ev_t, ev_c, put_some, put_none, upd_same, upd_ne, List.length_cons, List.length_nil, List.map_cons, List.map_nil, allow_no, allow_lt, argEnv_0, argEnv_1, argEnv_2, argEnv_3, argEnv_4, argEnv_5, res_1, res_2, retQ_nrm, retQ_ret, o_mv, o_pick, vPick_t, vPick_f, o_new, o_box, vBox_S, boxD_ok, vMap_some, vMapL_some, o_build, o_ld, vLd_ptr, vLd_S, ldS_ok, selB_true, o_st, vSt_S, stS_ok, stD_ok, o_nilck, vNil_ptr, vNil_mp, vNil_fn, o_bin, o_un, o_mkfn, o_fa, vFa_mp, vFa_S, faD_ok, o_fld, vFld_agg, o_ia, vIa_sl, vIa_ms, o_iaa, vIaa_ptr, vIaa_mp, o_len, vLen_sl, vLen_ms, o_mx, o_mn, vMx_i, vMn_i, o_ext, vExt_tup, b_add, b_sub, b_mul, b_lss, b_leq, b_gtr, b_geq, b_eql, b_neq, o_pure, List.nil_append, List.append_nil, List.cons_append, frz_d_i, frz_d_b, frz_d_s, frz_d_nilp, frz_d_ptr, frz_d_sl, frz_d_fn0, Bool.not_true, Bool.not_false, Bool.true_and, Bool.and_true, Bool.false_and, Bool.and_false, decide_true, decide_false, beq_self_eq_true, Bool.true_eq_false, Bool.false_eq_true, Nat.zero_add, Nat.add_zero, Int.toNat_natCast, ge_iff_le, gt_iff_lt, fill_S, fillD_ok, fill_nil, cellsOf_agg, cellsOf_i, cellsOf_b, cellsOf_s, cellsOf_ptr, cellsOf_nilp, cellsOf_sl, cellsOf_mp, cellsOf_fn, one_i, one_b, one_s, one_ptr, one_nilp, one_sl, one_mp, one_fn, List.all_cons, List.all_nil, splice_1, splice_2, splice_3, part_0, part_1, part_2, drop_0, g0_nx, g0_hp, List.set_cons_zero, List.set_cons_succ, List.length_append, List.length_replicate, Nat.reduceAdd, Nat.reduceMul, Nat.reduceSub, eq_self, true_and, and_true, vPure_S, purS_some, purD_some, purE_true, frzL_cons, frzL_nil, consO_ok, flat_i, flat_b, flat_s, flat_nilp, flat_ptr, flat_sl, flat_agg, flat_tup, vis_i, vis_b, vis_s, vis_nilp, vis_ptr, vis_sl, vis_fn0, List.flatMap_cons, List.flatMap_nil, isEmpty_nil, Bool.true_or, Bool.false_or, Bool.or_true, Bool.or_false, frz_P, frz_Q, frzP_cells, frzB_true, map_some', rd_S, o_bsl, vBsl_t, vBsl_f, o_app, appD_ok, vApp_rig, vApp_rig0, appK_ok, vApp_own, o_eqn, o_eqb, o_eqa, aeqn_pn, aeqn_np, aeqn_mn, aeqn_nn, aeqb_bb, negb_t, negb_f, aun_not, midQ_nrm, evC_len, evC_one, evC_flat, evC_all, ev_th, ev_kd, ev_md, ev_lc, ev_vl, ev_ex, grC_len, grC_one, grC_all, gr_locs, gr_evs, gr_rf, gr_co, gr_rmw, gr_data, gr_ctrl, gr_ctrli, frz_gr, frz_ev, vis_gr, vis_ev, splice_ev, evsC_len, coC_len, o_raw, vRaw_fn, res_0, retP_nrm, retP_ret, o_mget, vMget_S, mgS_map, o_mkmap, o_mput, vMput_S, mpS_map, mpO_none, part_22, Int.toNat_zero, Nat.zero_mul, part_3, cellsOf_ms, one_ms, r5, r7, s6, s8, List.length_set, hp1, hp2]
  refine blk_cut (fun e g => ∃ t1 t2 t3, LnSt k r (lnX k []) k t3 t1 t2 e g ∧ Tk3 g t1 t2 t3) ?_ ?_
  · refine W_loop (fun q e g => ∃ i t1 t2 t3, q = k - i ∧ i ≤ k ∧ e 8 = .i .i64 i ∧ LnSt k r (lnX i []) i t3 t1 t2 e g ∧ Tk3 g t1 t2 t3) k ?_ ?_
    · refine ⟨0, .rig, .rig, .rig, rfl, Nat.zero_le _, ?_⟩
      simp (disch := omega) only [W_skip, W_ext, W_ret, W_seq, thenQ_nrm, thenQ_ext, thenQ_ret, W_cond, selW_true, selW_false, W_blk, blkQ_nrm, blkQ_ret, blkQ_same, blkQ_ne, W_reg, nrmQ_is, WR_nil, WR_cons, selO_true, selO_false, bindO_some, loopQ_nrm, loopQ_ext, loopQ_ret, wanted_none, wanted_some, wantV_1, wantV_0, wantV_undef, ev_t, ev_c, put_some, put_none, upd_same, upd_ne, List.length_cons, List.length_nil, List.map_cons, List.map_nil, allow_no, allow_lt, argEnv_0, argEnv_1, argEnv_2, argEnv_3, argEnv_4, argEnv_5, res_1, res_2, retQ_nrm, retQ_ret, o_mv, o_pick, vPick_t, vPick_f, o_new, o_box, vBox_S, boxD_ok, vMap_some, vMapL_some, o_build, o_ld, vLd_ptr, vLd_S, ldS_ok, selB_true, o_st, vSt_S, stS_ok, stD_ok, o_nilck, vNil_ptr, vNil_mp, vNil_fn, o_bin, o_un, o_mkfn, o_fa, vFa_mp, vFa_S, faD_ok, o_fld, vFld_agg, o_ia, vIa_sl, vIa_ms, o_iaa, vIaa_ptr, vIaa_mp, o_len, vLen_sl, vLen_ms, o_mx, o_mn, vMx_i, vMn_i, o_ext, vExt_tup, b_add, b_sub, b_mul, b_lss, b_leq, b_gtr, b_geq, b_eql, b_neq, o_pure, List.nil_append, List.append_nil, List.cons_append, frz_d_i, frz_d_b, frz_d_s, frz_d_nilp, frz_d_ptr, frz_d_sl, frz_d_fn0, Bool.not_true, Bool.not_false, Bool.true_and, Bool.and_true, Bool.false_and, Bool.and_false, decide_true, decide_false, beq_self_eq_true, Bool.true_eq_false, Bool.false_eq_true, Nat.zero_add, Nat.add_zero, Int.toNat_natCast, ge_iff_le, gt_iff_lt, fill_S, fillD_ok, fill_nil, cellsOf_agg, cellsOf_i, cellsOf_b, cellsOf_s, cellsOf_ptr, cellsOf_nilp, cellsOf_sl, cellsOf_mp, cellsOf_fn, one_i, one_b, one_s, one_ptr, one_nilp, one_sl, one_mp, one_fn, List.all_cons, List.all_nil, splice_1, splice_2, splice_3, part_0, part_1, part_2, drop_0, g0_nx, g0_hp, List.set_cons_zero, List.set_cons_succ, List.length_append, List.length_replicate, Nat.reduceAdd, Nat.reduceMul, Nat.reduceSub, eq_self, true_and, and_true, vPure_S, purS_some, purD_some, purE_true, frzL_cons, frzL_nil, consO_ok, flat_i, flat_b, flat_s, flat_nilp, flat_ptr, flat_sl, flat_agg, flat_tup, vis_i, vis_b, vis_s, vis_nilp, vis_ptr, vis_sl, vis_fn0, List.flatMap_cons, List.flatMap_nil, isEmpty_nil, Bool.true_or, Bool.false_or, Bool.or_true, Bool.or_false, frz_P, frz_Q, frzP_cells, frzB_true, map_some', rd_S, o_bsl, vBsl_t, vBsl_f, o_app, appD_ok, vApp_rig, vApp_rig0, appK_ok, vApp_own, o_eqn, o_eqb, o_eqa, aeqn_pn, aeqn_np, aeqn_mn, aeqn_nn, aeqb_bb, negb_t, negb_f, aun_not, midQ_nrm, LnSt]
      exact ⟨rfl, ⟨by rfl, by rfl, by first | omega | (dsimp only; omega)⟩, .inl ⟨rfl, rfl, rfl⟩⟩
    · rintro q e g ⟨i, t1, t2, t3, rfl, hi, e8, ⟨e5, e6, e7, hg, hc, hnx⟩, T⟩
      by_cases hi' : i < k
      · have hi1 : (i : Int) < k := by omega
        have hwi := succ_wrap (k := i) (by omega)
        have hwi' : IntKind.i64.wrap (1 + (i : Int)) = ((i + 1 : Nat) : Int) := by rw [Int.add_comm]; exact hwi
        have hE := evsC_len (lnX i []).evs
        have hR : (intsC (lnX i []).rf).length = (lnX i []).rf.length := by simp [intsC]
        have hC := coL_len i
        have hEl : (lnX i []).evs.length ≤ 100 := by rw [lnX_len]; simp; omega
        have hRl : (lnX i []).rf.length ≤ 100 := by simp [lnX]; omega
        have hw := lnC_w i
        have hcs := coL_succ i
        have hbe : evC w1E = [.i .i64 1, .i .i64 2, .i .i64 0, .i .i64 0, .i .i64 0, .b false] := rfl
        unfold lnC at hg
        rcases T with ⟨rfl, rfl, rfl⟩ | ⟨a, b, c, rfl, rfl, rfl, ab, ac, bc, la, lb, lc, na, nb, nc⟩
        · simp (disch := omega) only [W_skip, W_ext, W_ret, W_seq, thenQ_nrm, thenQ_ext, thenQ_ret, W_cond, selW_true, selW_false, W_blk, blkQ_nrm, blkQ_ret, blkQ_same, blkQ_ne, W_reg, nrmQ_is, WR_nil, WR_cons, selO_true, selO_false, bindO_some, loopQ_nrm, loopQ_ext, loopQ_ret, wanted_none, wanted_some, wantV_1, wantV_0, wantV_undef, ev_t, ev_c, put_some, put_none, upd_same, upd_ne, List.length_cons, List.length_nil, List.map_cons, List.map_nil, allow_no, allow_lt, argEnv_0, argEnv_1, argEnv_2, argEnv_3, argEnv_4, argEnv_5, res_1, res_2, retQ_nrm, retQ_ret, o_mv, o_pick, vPick_t, vPick_f, o_new, o_box, vBox_S, boxD_ok, vMap_some, vMapL_some, o_build, o_ld, vLd_ptr, vLd_S, ldS_ok, selB_true, o_st, vSt_S, stS_ok, stD_ok, o_nilck, vNil_ptr, vNil_mp, vNil_fn, o_bin, o_un, o_mkfn, o_fa, vFa_mp, vFa_S, faD_ok, o_fld, vFld_agg, o_ia, vIa_sl, vIa_ms, o_iaa, vIaa_ptr, vIaa_mp, o_len, vLen_sl, vLen_ms, o_mx, o_mn, vMx_i, vMn_i, o_ext, vExt_tup, b_add, b_sub, b_mul, b_lss, b_leq, b_gtr, b_geq, b_eql, b_neq, o_pure, List.nil_append, List.append_nil, List.cons_append, frz_d_i, frz_d_b, frz_d_s, frz_d_nilp, frz_d_ptr, frz_d_sl, frz_d_fn0, Bool.not_true, Bool.not_false, Bool.true_and, Bool.and_true, Bool.false_and, Bool.and_false, decide_true, decide_false, beq_self_eq_true, Bool.true_eq_false, Bool.false_eq_true, Nat.zero_add, Nat.add_zero, Int.toNat_natCast, ge_iff_le, gt_iff_lt, fill_S, fillD_ok, fill_nil, cellsOf_agg, cellsOf_i, cellsOf_b, cellsOf_s, cellsOf_ptr, cellsOf_nilp, cellsOf_sl, cellsOf_mp, cellsOf_fn, one_i, one_b, one_s, one_ptr, one_nilp, one_sl, one_mp, one_fn, List.all_cons, List.all_nil, splice_1, splice_2, splice_3, part_0, part_1, part_2, drop_0, g0_nx, g0_hp, List.set_cons_zero, List.set_cons_succ, List.length_append, List.length_replicate, Nat.reduceAdd, Nat.reduceMul, Nat.reduceSub, eq_self, true_and, and_true, vPure_S, purS_some, purD_some, purE_true, frzL_cons, frzL_nil, consO_ok, flat_i, flat_b, flat_s, flat_nilp, flat_ptr, flat_sl, flat_agg, flat_tup, vis_i, vis_b, vis_s, vis_nilp, vis_ptr, vis_sl, vis_fn0, List.flatMap_cons, List.flatMap_nil, isEmpty_nil, Bool.true_or, Bool.false_or, Bool.or_true, Bool.or_false, frz_P, frz_Q, frzP_cells, frzB_true, map_some', rd_S, o_bsl, vBsl_t, vBsl_f, o_app, appD_ok, vApp_rig, vApp_rig0, appK_ok, vApp_own, o_eqn, o_eqb, o_eqa, aeqn_pn, aeqn_np, aeqn_mn, aeqn_nn, aeqb_bb, negb_t, negb_f, aun_not, midQ_nrm, evC_len, evC_one, evC_flat, evC_all, ev_th, ev_kd, ev_md, ev_lc, ev_vl, ev_ex, grC_len, grC_one, grC_all, gr_locs, gr_evs, gr_rf, gr_co, gr_rmw, gr_data, gr_ctrl, gr_ctrli, frz_gr, frz_ev, vis_gr, vis_ev, splice_ev, evsC_len, coC_len, o_raw, vRaw_fn, res_0, retP_nrm, retP_ret, o_mget, vMget_S, mgS_map, o_mkmap, o_mput, vMput_S, mpS_map, mpO_none, part_22, Int.toNat_zero, Nat.zero_mul, part_3, cellsOf_ms, one_ms, e5, e6, e7, e8, hg, hc, hi1, hwi, hwi', s6, hE, hR, hC, List.length_set]
          refine ⟨k - (i + 1), by omega, i + 1, .own (g.nx + 3 + 6) 6, .own (g.nx + 3 + 10) 1, .own (g.nx + 3 + 18) 1, rfl, by omega, rfl, ?_, ?_⟩
          · simp (disch := omega) only [LnSt, W_skip, W_ext, W_ret, W_seq, thenQ_nrm, thenQ_ext, thenQ_ret, W_cond, selW_true, selW_false, W_blk, blkQ_nrm, blkQ_ret, blkQ_same, blkQ_ne, W_reg, nrmQ_is, WR_nil, WR_cons, selO_true, selO_false, bindO_some, loopQ_nrm, loopQ_ext, loopQ_ret, wanted_none, wanted_some, wantV_1, wantV_0, wantV_undef, ev_t, ev_c, put_some, put_none, upd_same, upd_ne, List.length_cons, List.length_nil, List.map_cons, List.map_nil, allow_no, allow_lt, argEnv_0, argEnv_1, argEnv_2, argEnv_3, argEnv_4, argEnv_5, res_1, res_2, retQ_nrm, retQ_ret, o_mv, o_pick, vPick_t, vPick_f, o_new, o_box, vBox_S, boxD_ok, vMap_some, vMapL_some, o_build, o_ld, vLd_ptr, vLd_S, ldS_ok, selB_true, o_st, vSt_S, stS_ok, stD_ok, o_nilck, vNil_ptr, vNil_mp, vNil_fn, o_bin, o_un, o_mkfn, o_fa, vFa_mp, vFa_S, faD_ok, o_fld, vFld_agg, o_ia, vIa_sl, vIa_ms, o_iaa, vIaa_ptr, vIaa_mp, o_len, vLen_sl, vLen_ms, o_mx, o_mn, vMx_i, vMn_i, o_ext, vExt_tup, b_add, b_sub, b_mul, b_lss, b_leq, b_gtr, b_geq, b_eql, b_neq, o_pure, List.nil_append, List.append_nil, List.cons_append, frz_d_i, frz_d_b, frz_d_s, frz_d_nilp, frz_d_ptr, frz_d_sl, frz_d_fn0, Bool.not_true, Bool.not_false, Bool.true_and, Bool.and_true, Bool.false_and, Bool.and_false, decide_true, decide_false, beq_self_eq_true, Bool.true_eq_false, Bool.false_eq_true, Nat.zero_add, Nat.add_zero, Int.toNat_natCast, ge_iff_le, gt_iff_lt, fill_S, fillD_ok, fill_nil, cellsOf_agg, cellsOf_i, cellsOf_b, cellsOf_s, cellsOf_ptr, cellsOf_nilp, cellsOf_sl, cellsOf_mp, cellsOf_fn, one_i, one_b, one_s, one_ptr, one_nilp, one_sl, one_mp, one_fn, List.all_cons, List.all_nil, splice_1, splice_2, splice_3, part_0, part_1, part_2, drop_0, g0_nx, g0_hp, List.set_cons_zero, List.set_cons_succ, List.length_append, List.length_replicate, Nat.reduceAdd, Nat.reduceMul, Nat.reduceSub, eq_self, true_and, and_true, vPure_S, purS_some, purD_some, purE_true, frzL_cons, frzL_nil, consO_ok, flat_i, flat_b, flat_s, flat_nilp, flat_ptr, flat_sl, flat_agg, flat_tup, vis_i, vis_b, vis_s, vis_nilp, vis_ptr, vis_sl, vis_fn0, List.flatMap_cons, List.flatMap_nil, isEmpty_nil, Bool.true_or, Bool.false_or, Bool.or_true, Bool.or_false, frz_P, frz_Q, frzP_cells, frzB_true, map_some', rd_S, o_bsl, vBsl_t, vBsl_f, o_app, appD_ok, vApp_rig, vApp_rig0, appK_ok, vApp_own, o_eqn, o_eqb, o_eqa, aeqn_pn, aeqn_np, aeqn_mn, aeqn_nn, aeqb_bb, negb_t, negb_f, aun_not, midQ_nrm, hw, hcs, hbe, e5, e6, e7]
            first | omega | (dsimp only; omega)
          · refine .inr ⟨_, _, _, rfl, rfl, rfl, by omega, by omega, by omega, ?_, ?_, ?_, ?_, ?_, ?_⟩ <;> first | (simp (disch := omega) only [upd_same, upd_ne]; done) | omega | (dsimp only; omega)
        · have a11 : a ≠ 11 := fun h => by rw [h, hc] at la; cases la
          have a13 : a ≠ 13 := fun h => by rw [h, hg] at la; cases la
          have b11 : b ≠ 11 := fun h => by rw [h, hc] at lb; cases lb
          have b13 : b ≠ 13 := fun h => by rw [h, hg] at lb; cases lb
          have c11 : c ≠ 11 := fun h => by rw [h, hc] at lc; cases lc
          have c13 : c ≠ 13 := fun h => by rw [h, hg] at lc; cases lc
          simp (disch := omega) only [W_skip, W_ext, W_ret, W_seq, thenQ_nrm, thenQ_ext, thenQ_ret, W_cond, selW_true, selW_false, W_blk, blkQ_nrm, blkQ_ret, blkQ_same, blkQ_ne, W_reg, nrmQ_is, WR_nil, WR_cons, selO_true, selO_false, bindO_some, loopQ_nrm, loopQ_ext, loopQ_ret, wanted_none, wanted_some, wantV_1, wantV_0, wantV_undef, ev_t, ev_c, put_some, put_none, upd_same, upd_ne, List.length_cons, List.length_nil, List.map_cons, List.map_nil, allow_no, allow_lt, argEnv_0, argEnv_1, argEnv_2, argEnv_3, argEnv_4, argEnv_5, res_1, res_2, retQ_nrm, retQ_ret, o_mv, o_pick, vPick_t, vPick_f, o_new, o_box, vBox_S, boxD_ok, vMap_some, vMapL_some, o_build, o_ld, vLd_ptr, vLd_S, ldS_ok, selB_true, o_st, vSt_S, stS_ok, stD_ok, o_nilck, vNil_ptr, vNil_mp, vNil_fn, o_bin, o_un, o_mkfn, o_fa, vFa_mp, vFa_S, faD_ok, o_fld, vFld_agg, o_ia, vIa_sl, vIa_ms, o_iaa, vIaa_ptr, vIaa_mp, o_len, vLen_sl, vLen_ms, o_mx, o_mn, vMx_i, vMn_i, o_ext, vExt_tup, b_add, b_sub, b_mul, b_lss, b_leq, b_gtr, b_geq, b_eql, b_neq, o_pure, List.nil_append, List.append_nil, List.cons_append, frz_d_i, frz_d_b, frz_d_s, frz_d_nilp, frz_d_ptr, frz_d_sl, frz_d_fn0, Bool.not_true, Bool.not_false, Bool.true_and, Bool.and_true, Bool.false_and, Bool.and_false, decide_true, decide_false, beq_self_eq_true, Bool.true_eq_false, Bool.false_eq_true, Nat.zero_add, Nat.add_zero, Int.toNat_natCast, ge_iff_le, gt_iff_lt, fill_S, fillD_ok, fill_nil, cellsOf_agg, cellsOf_i, cellsOf_b, cellsOf_s, cellsOf_ptr, cellsOf_nilp, cellsOf_sl, cellsOf_mp, cellsOf_fn, one_i, one_b, one_s, one_ptr, one_nilp, one_sl, one_mp, one_fn, List.all_cons, List.all_nil, splice_1, splice_2, splice_3, part_0, part_1, part_2, drop_0, g0_nx, g0_hp, List.set_cons_zero, List.set_cons_succ, List.length_append, List.length_replicate, Nat.reduceAdd, Nat.reduceMul, Nat.reduceSub, eq_self, true_and, and_true, vPure_S, purS_some, purD_some, purE_true, frzL_cons, frzL_nil, consO_ok, flat_i, flat_b, flat_s, flat_nilp, flat_ptr, flat_sl, flat_agg, flat_tup, vis_i, vis_b, vis_s, vis_nilp, vis_ptr, vis_sl, vis_fn0, List.flatMap_cons, List.flatMap_nil, isEmpty_nil, Bool.true_or, Bool.false_or, Bool.or_true, Bool.or_false, frz_P, frz_Q, frzP_cells, frzB_true, map_some', rd_S, o_bsl, vBsl_t, vBsl_f, o_app, appD_ok, vApp_rig, vApp_rig0, appK_ok, vApp_own, o_eqn, o_eqb, o_eqa, aeqn_pn, aeqn_np, aeqn_mn, aeqn_nn, aeqb_bb, negb_t, negb_f, aun_not, midQ_nrm, evC_len, evC_one, evC_flat, evC_all, ev_th, ev_kd, ev_md, ev_lc, ev_vl, ev_ex, grC_len, grC_one, grC_all, gr_locs, gr_evs, gr_rf, gr_co, gr_rmw, gr_data, gr_ctrl, gr_ctrli, frz_gr, frz_ev, vis_gr, vis_ev, splice_ev, evsC_len, coC_len, o_raw, vRaw_fn, res_0, retP_nrm, retP_ret, o_mget, vMget_S, mgS_map, o_mkmap, o_mput, vMput_S, mpS_map, mpO_none, part_22, Int.toNat_zero, Nat.zero_mul, part_3, cellsOf_ms, one_ms, e5, e6, e7, e8, hg, hc, hi1, hwi, hwi', s6, hE, hR, hC, List.length_set, la, lb, lc]
          refine ⟨k - (i + 1), by omega, i + 1, .own (g.nx + 3 + 6) 6, .own (g.nx + 3 + 10) 1, .own (g.nx + 3 + 18) 1, rfl, by omega, rfl, ?_, ?_⟩
          · simp (disch := omega) only [LnSt, W_skip, W_ext, W_ret, W_seq, thenQ_nrm, thenQ_ext, thenQ_ret, W_cond, selW_true, selW_false, W_blk, blkQ_nrm, blkQ_ret, blkQ_same, blkQ_ne, W_reg, nrmQ_is, WR_nil, WR_cons, selO_true, selO_false, bindO_some, loopQ_nrm, loopQ_ext, loopQ_ret, wanted_none, wanted_some, wantV_1, wantV_0, wantV_undef, ev_t, ev_c, put_some, put_none, upd_same, upd_ne, List.length_cons, List.length_nil, List.map_cons, List.map_nil, allow_no, allow_lt, argEnv_0, argEnv_1, argEnv_2, argEnv_3, argEnv_4, argEnv_5, res_1, res_2, retQ_nrm, retQ_ret, o_mv, o_pick, vPick_t, vPick_f, o_new, o_box, vBox_S, boxD_ok, vMap_some, vMapL_some, o_build, o_ld, vLd_ptr, vLd_S, ldS_ok, selB_true, o_st, vSt_S, stS_ok, stD_ok, o_nilck, vNil_ptr, vNil_mp, vNil_fn, o_bin, o_un, o_mkfn, o_fa, vFa_mp, vFa_S, faD_ok, o_fld, vFld_agg, o_ia, vIa_sl, vIa_ms, o_iaa, vIaa_ptr, vIaa_mp, o_len, vLen_sl, vLen_ms, o_mx, o_mn, vMx_i, vMn_i, o_ext, vExt_tup, b_add, b_sub, b_mul, b_lss, b_leq, b_gtr, b_geq, b_eql, b_neq, o_pure, List.nil_append, List.append_nil, List.cons_append, frz_d_i, frz_d_b, frz_d_s, frz_d_nilp, frz_d_ptr, frz_d_sl, frz_d_fn0, Bool.not_true, Bool.not_false, Bool.true_and, Bool.and_true, Bool.false_and, Bool.and_false, decide_true, decide_false, beq_self_eq_true, Bool.true_eq_false, Bool.false_eq_true, Nat.zero_add, Nat.add_zero, Int.toNat_natCast, ge_iff_le, gt_iff_lt, fill_S, fillD_ok, fill_nil, cellsOf_agg, cellsOf_i, cellsOf_b, cellsOf_s, cellsOf_ptr, cellsOf_nilp, cellsOf_sl, cellsOf_mp, cellsOf_fn, one_i, one_b, one_s, one_ptr, one_nilp, one_sl, one_mp, one_fn, List.all_cons, List.all_nil, splice_1, splice_2, splice_3, part_0, part_1, part_2, drop_0, g0_nx, g0_hp, List.set_cons_zero, List.set_cons_succ, List.length_append, List.length_replicate, Nat.reduceAdd, Nat.reduceMul, Nat.reduceSub, eq_self, true_and, and_true, vPure_S, purS_some, purD_some, purE_true, frzL_cons, frzL_nil, consO_ok, flat_i, flat_b, flat_s, flat_nilp, flat_ptr, flat_sl, flat_agg, flat_tup, vis_i, vis_b, vis_s, vis_nilp, vis_ptr, vis_sl, vis_fn0, List.flatMap_cons, List.flatMap_nil, isEmpty_nil, Bool.true_or, Bool.false_or, Bool.or_true, Bool.or_false, frz_P, frz_Q, frzP_cells, frzB_true, map_some', rd_S, o_bsl, vBsl_t, vBsl_f, o_app, appD_ok, vApp_rig, vApp_rig0, appK_ok, vApp_own, o_eqn, o_eqb, o_eqa, aeqn_pn, aeqn_np, aeqn_mn, aeqn_nn, aeqb_bb, negb_t, negb_f, aun_not, midQ_nrm, hw, hcs, hbe, e5, e6, e7]
            first | omega | (dsimp only; omega)
          · refine .inr ⟨_, _, _, rfl, rfl, rfl, by omega, by omega, by omega, ?_, ?_, ?_, ?_, ?_, ?_⟩ <;> first | (simp (disch := omega) only [upd_same, upd_ne]; done) | omega | (dsimp only; omega)
      · obtain rfl : i = k := by omega
        have hi1 : ¬ ((i : Int) < i) := by omega
        simp (disch := omega) only [W_skip, W_ext, W_ret, W_seq, thenQ_nrm, thenQ_ext, thenQ_ret, W_cond, selW_true, selW_false, W_blk, blkQ_nrm, blkQ_ret, blkQ_same, blkQ_ne, W_reg, nrmQ_is, WR_nil, WR_cons, selO_true, selO_false, bindO_some, loopQ_nrm, loopQ_ext, loopQ_ret, wanted_none, wanted_some, wantV_1, wantV_0, wantV_undef, ev_t, ev_c, put_some, put_none, upd_same, upd_ne, List.length_cons, List.length_nil, List.map_cons, List.map_nil, allow_no, allow_lt, argEnv_0, argEnv_1, argEnv_2, argEnv_3, argEnv_4, argEnv_5, res_1, res_2, retQ_nrm, retQ_ret, o_mv, o_pick, vPick_t, vPick_f, o_new, o_box, vBox_S, boxD_ok, vMap_some, vMapL_some, o_build, o_ld, vLd_ptr, vLd_S, ldS_ok, selB_true, o_st, vSt_S, stS_ok, stD_ok, o_nilck, vNil_ptr, vNil_mp, vNil_fn, o_bin, o_un, o_mkfn, o_fa, vFa_mp, vFa_S, faD_ok, o_fld, vFld_agg, o_ia, vIa_sl, vIa_ms, o_iaa, vIaa_ptr, vIaa_mp, o_len, vLen_sl, vLen_ms, o_mx, o_mn, vMx_i, vMn_i, o_ext, vExt_tup, b_add, b_sub, b_mul, b_lss, b_leq, b_gtr, b_geq, b_eql, b_neq, o_pure, List.nil_append, List.append_nil, List.cons_append, frz_d_i, frz_d_b, frz_d_s, frz_d_nilp, frz_d_ptr, frz_d_sl, frz_d_fn0, Bool.not_true, Bool.not_false, Bool.true_and, Bool.and_true, Bool.false_and, Bool.and_false, decide_true, decide_false, beq_self_eq_true, Bool.true_eq_false, Bool.false_eq_true, Nat.zero_add, Nat.add_zero, Int.toNat_natCast, ge_iff_le, gt_iff_lt, fill_S, fillD_ok, fill_nil, cellsOf_agg, cellsOf_i, cellsOf_b, cellsOf_s, cellsOf_ptr, cellsOf_nilp, cellsOf_sl, cellsOf_mp, cellsOf_fn, one_i, one_b, one_s, one_ptr, one_nilp, one_sl, one_mp, one_fn, List.all_cons, List.all_nil, splice_1, splice_2, splice_3, part_0, part_1, part_2, drop_0, g0_nx, g0_hp, List.set_cons_zero, List.set_cons_succ, List.length_append, List.length_replicate, Nat.reduceAdd, Nat.reduceMul, Nat.reduceSub, eq_self, true_and, and_true, vPure_S, purS_some, purD_some, purE_true, frzL_cons, frzL_nil, consO_ok, flat_i, flat_b, flat_s, flat_nilp, flat_ptr, flat_sl, flat_agg, flat_tup, vis_i, vis_b, vis_s, vis_nilp, vis_ptr, vis_sl, vis_fn0, List.flatMap_cons, List.flatMap_nil, isEmpty_nil, Bool.true_or, Bool.false_or, Bool.or_true, Bool.or_false, frz_P, frz_Q, frzP_cells, frzB_true, map_some', rd_S, o_bsl, vBsl_t, vBsl_f, o_app, appD_ok, vApp_rig, vApp_rig0, appK_ok, vApp_own, o_eqn, o_eqb, o_eqa, aeqn_pn, aeqn_np, aeqn_mn, aeqn_nn, aeqb_bb, negb_t, negb_f, aun_not, midQ_nrm, evC_len, evC_one, evC_flat, evC_all, ev_th, ev_kd, ev_md, ev_lc, ev_vl, ev_ex, grC_len, grC_one, grC_all, gr_locs, gr_evs, gr_rf, gr_co, gr_rmw, gr_data, gr_ctrl, gr_ctrli, frz_gr, frz_ev, vis_gr, vis_ev, splice_ev, evsC_len, coC_len, o_raw, vRaw_fn, res_0, retP_nrm, retP_ret, o_mget, vMget_S, mgS_map, o_mkmap, o_mput, vMput_S, mpS_map, mpO_none, part_22, Int.toNat_zero, Nat.zero_mul, part_3, cellsOf_ms, one_ms, e5, e6, e7, e8, hi1]
        refine ⟨t1, t2, t3, ?_, T.on (by omega)⟩
        simp (disch := omega) only [LnSt, W_skip, W_ext, W_ret, W_seq, thenQ_nrm, thenQ_ext, thenQ_ret, W_cond, selW_true, selW_false, W_blk, blkQ_nrm, blkQ_ret, blkQ_same, blkQ_ne, W_reg, nrmQ_is, WR_nil, WR_cons, selO_true, selO_false, bindO_some, loopQ_nrm, loopQ_ext, loopQ_ret, wanted_none, wanted_some, wantV_1, wantV_0, wantV_undef, ev_t, ev_c, put_some, put_none, upd_same, upd_ne, List.length_cons, List.length_nil, List.map_cons, List.map_nil, allow_no, allow_lt, argEnv_0, argEnv_1, argEnv_2, argEnv_3, argEnv_4, argEnv_5, res_1, res_2, retQ_nrm, retQ_ret, o_mv, o_pick, vPick_t, vPick_f, o_new, o_box, vBox_S, boxD_ok, vMap_some, vMapL_some, o_build, o_ld, vLd_ptr, vLd_S, ldS_ok, selB_true, o_st, vSt_S, stS_ok, stD_ok, o_nilck, vNil_ptr, vNil_mp, vNil_fn, o_bin, o_un, o_mkfn, o_fa, vFa_mp, vFa_S, faD_ok, o_fld, vFld_agg, o_ia, vIa_sl, vIa_ms, o_iaa, vIaa_ptr, vIaa_mp, o_len, vLen_sl, vLen_ms, o_mx, o_mn, vMx_i, vMn_i, o_ext, vExt_tup, b_add, b_sub, b_mul, b_lss, b_leq, b_gtr, b_geq, b_eql, b_neq, o_pure, List.nil_append, List.append_nil, List.cons_append, frz_d_i, frz_d_b, frz_d_s, frz_d_nilp, frz_d_ptr, frz_d_sl, frz_d_fn0, Bool.not_true, Bool.not_false, Bool.true_and, Bool.and_true, Bool.false_and, Bool.and_false, decide_true, decide_false, beq_self_eq_true, Bool.true_eq_false, Bool.false_eq_true, Nat.zero_add, Nat.add_zero, Int.toNat_natCast, ge_iff_le, gt_iff_lt, fill_S, fillD_ok, fill_nil, cellsOf_agg, cellsOf_i, cellsOf_b, cellsOf_s, cellsOf_ptr, cellsOf_nilp, cellsOf_sl, cellsOf_mp, cellsOf_fn, one_i, one_b, one_s, one_ptr, one_nilp, one_sl, one_mp, one_fn, List.all_cons, List.all_nil, splice_1, splice_2, splice_3, part_0, part_1, part_2, drop_0, g0_nx, g0_hp, List.set_cons_zero, List.set_cons_succ, List.length_append, List.length_replicate, Nat.reduceAdd, Nat.reduceMul, Nat.reduceSub, eq_self, true_and, and_true, vPure_S, purS_some, purD_some, purE_true, frzL_cons, frzL_nil, consO_ok, flat_i, flat_b, flat_s, flat_nilp, flat_ptr, flat_sl, flat_agg, flat_tup, vis_i, vis_b, vis_s, vis_nilp, vis_ptr, vis_sl, vis_fn0, List.flatMap_cons, List.flatMap_nil, isEmpty_nil, Bool.true_or, Bool.false_or, Bool.or_true, Bool.or_false, frz_P, frz_Q, frzP_cells, frzB_true, map_some', rd_S, o_bsl, vBsl_t, vBsl_f, o_app, appD_ok, vApp_rig, vApp_rig0, appK_ok, vApp_own, o_eqn, o_eqb, o_eqa, aeqn_pn, aeqn_np, aeqn_mn, aeqn_nn, aeqb_bb, negb_t, negb_f, aun_not, midQ_nrm, e5, e6, e7, hg, hc]
        first | omega | (dsimp only; omega)
  · rintro e g ⟨t1, t2, t3, ⟨e5, e6, e7, hg, hc, hnx⟩, T⟩
    have T := T.two
    simp (disch := omega) only [W_skip, W_ext, W_ret, W_seq, thenQ_nrm, thenQ_ext, thenQ_ret, W_cond, selW_true, selW_false, W_blk, blkQ_nrm, blkQ_ret, blkQ_same, blkQ_ne, W_reg, nrmQ_is, WR_nil, WR_cons, selO_true, selO_false, bindO_some, loopQ_nrm, loopQ_ext, loopQ_ret, wanted_none, wanted_some, wantV_1, wantV_0, wantV_undef, ev_t, ev_c, put_some, put_none, upd_same, upd_ne, List.length_cons, List.length_nil, List.map_cons, List.map_nil, allow_no, allow_lt, argEnv_0, argEnv_1, argEnv_2, argEnv_3, argEnv_4, argEnv_5, res_1, res_2, retQ_nrm, retQ_ret, o_mv, o_pick, vPick_t, vPick_f, o_new, o_box, vBox_S, boxD_ok, vMap_some, vMapL_some, o_build, o_ld, vLd_ptr, vLd_S, ldS_ok, selB_true, o_st, vSt_S, stS_ok, stD_ok, o_nilck, vNil_ptr, vNil_mp, vNil_fn, o_bin, o_un, o_mkfn, o_fa, vFa_mp, vFa_S, faD_ok, o_fld, vFld_agg, o_ia, vIa_sl, vIa_ms, o_iaa, vIaa_ptr, vIaa_mp, o_len, vLen_sl, vLen_ms, o_mx, o_mn, vMx_i, vMn_i, o_ext, vExt_tup, b_add, b_sub, b_mul, b_lss, b_leq, b_gtr, b_geq, b_eql, b_neq, o_pure, List.nil_append, List.append_nil, List.cons_append, frz_d_i, frz_d_b, frz_d_s, frz_d_nilp, frz_d_ptr, frz_d_sl, frz_d_fn0, Bool.not_true, Bool.not_false, Bool.true_and, Bool.and_true, Bool.false_and, Bool.and_false, decide_true, decide_false, beq_self_eq_true, Bool.true_eq_false, Bool.false_eq_true, Nat.zero_add, Nat.add_zero, Int.toNat_natCast, ge_iff_le, gt_iff_lt, fill_S, fillD_ok, fill_nil, cellsOf_agg, cellsOf_i, cellsOf_b, cellsOf_s, cellsOf_ptr, cellsOf_nilp, cellsOf_sl, cellsOf_mp, cellsOf_fn, one_i, one_b, one_s, one_ptr, one_nilp, one_sl, one_mp, one_fn, List.all_cons, List.all_nil, splice_1, splice_2, splice_3, part_0, part_1, part_2, drop_0, g0_nx, g0_hp, List.set_cons_zero, List.set_cons_succ, List.length_append, List.length_replicate, Nat.reduceAdd, Nat.reduceMul, Nat.reduceSub, eq_self, true_and, and_true, vPure_S, purS_some, purD_some, purE_true, frzL_cons, frzL_nil, consO_ok, flat_i, flat_b, flat_s, flat_nilp, flat_ptr, flat_sl, flat_agg, flat_tup, vis_i, vis_b, vis_s, vis_nilp, vis_ptr, vis_sl, vis_fn0, List.flatMap_cons, List.flatMap_nil, isEmpty_nil, Bool.true_or, Bool.false_or, Bool.or_true, Bool.or_false, frz_P, frz_Q, frzP_cells, frzB_true, map_some', rd_S, o_bsl, vBsl_t, vBsl_f, o_app, appD_ok, vApp_rig, vApp_rig0, appK_ok, vApp_own, o_eqn, o_eqb, o_eqa, aeqn_pn, aeqn_np, aeqn_mn, aeqn_nn, aeqb_bb, negb_t, negb_f, aun_not, midQ_nrm]
    refine blk_cut (fun e g => ∃ t1 t2, LnSt k r (lineX k r) k t3 t1 t2 e g) ?_ ?_
    · refine W_loop (fun q e g => ∃ i t1 t2, q = k + 1 - i ∧ i ≤ k + 1 ∧ e 9 = .i .i64 i ∧ LnSt k r (lnX k (rdsK r i)) k t3 t1 t2 e g ∧ Tk2 g t1 t2) (k + 1) ?_ ?_
      · refine ⟨0, t1, t2, rfl, Nat.zero_le _, ?_⟩
        simp (disch := omega) only [W_skip, W_ext, W_ret, W_seq, thenQ_nrm, thenQ_ext, thenQ_ret, W_cond, selW_true, selW_false, W_blk, blkQ_nrm, blkQ_ret, blkQ_same, blkQ_ne, W_reg, nrmQ_is, WR_nil, WR_cons, selO_true, selO_false, bindO_some, loopQ_nrm, loopQ_ext, loopQ_ret, wanted_none, wanted_some, wantV_1, wantV_0, wantV_undef, ev_t, ev_c, put_some, put_none, upd_same, upd_ne, List.length_cons, List.length_nil, List.map_cons, List.map_nil, allow_no, allow_lt, argEnv_0, argEnv_1, argEnv_2, argEnv_3, argEnv_4, argEnv_5, res_1, res_2, retQ_nrm, retQ_ret, o_mv, o_pick, vPick_t, vPick_f, o_new, o_box, vBox_S, boxD_ok, vMap_some, vMapL_some, o_build, o_ld, vLd_ptr, vLd_S, ldS_ok, selB_true, o_st, vSt_S, stS_ok, stD_ok, o_nilck, vNil_ptr, vNil_mp, vNil_fn, o_bin, o_un, o_mkfn, o_fa, vFa_mp, vFa_S, faD_ok, o_fld, vFld_agg, o_ia, vIa_sl, vIa_ms, o_iaa, vIaa_ptr, vIaa_mp, o_len, vLen_sl, vLen_ms, o_mx, o_mn, vMx_i, vMn_i, o_ext, vExt_tup, b_add, b_sub, b_mul, b_lss, b_leq, b_gtr, b_geq, b_eql, b_neq, o_pure, List.nil_append, List.append_nil, List.cons_append, frz_d_i, frz_d_b, frz_d_s, frz_d_nilp, frz_d_ptr, frz_d_sl, frz_d_fn0, Bool.not_true, Bool.not_false, Bool.true_and, Bool.and_true, Bool.false_and, Bool.and_false, decide_true, decide_false, beq_self_eq_true, Bool.true_eq_false, Bool.false_eq_true, Nat.zero_add, Nat.add_zero, Int.toNat_natCast, ge_iff_le, gt_iff_lt, fill_S, fillD_ok, fill_nil, cellsOf_agg, cellsOf_i, cellsOf_b, cellsOf_s, cellsOf_ptr, cellsOf_nilp, cellsOf_sl, cellsOf_mp, cellsOf_fn, one_i, one_b, one_s, one_ptr, one_nilp, one_sl, one_mp, one_fn, List.all_cons, List.all_nil, splice_1, splice_2, splice_3, part_0, part_1, part_2, drop_0, g0_nx, g0_hp, List.set_cons_zero, List.set_cons_succ, List.length_append, List.length_replicate, Nat.reduceAdd, Nat.reduceMul, Nat.reduceSub, eq_self, true_and, and_true, vPure_S, purS_some, purD_some, purE_true, frzL_cons, frzL_nil, consO_ok, flat_i, flat_b, flat_s, flat_nilp, flat_ptr, flat_sl, flat_agg, flat_tup, vis_i, vis_b, vis_s, vis_nilp, vis_ptr, vis_sl, vis_fn0, List.flatMap_cons, List.flatMap_nil, isEmpty_nil, Bool.true_or, Bool.false_or, Bool.or_true, Bool.or_false, frz_P, frz_Q, frzP_cells, frzB_true, map_some', rd_S, o_bsl, vBsl_t, vBsl_f, o_app, appD_ok, vApp_rig, vApp_rig0, appK_ok, vApp_own, o_eqn, o_eqb, o_eqa, aeqn_pn, aeqn_np, aeqn_mn, aeqn_nn, aeqb_bb, negb_t, negb_f, aun_not, midQ_nrm, LnSt, e5, e6, e7, hc]
        exact ⟨rfl, ⟨hg, by first | omega | (dsimp only; omega)⟩, T.on (by omega)⟩
      · rintro q e g ⟨i, t1, t2, rfl, hi, e9, ⟨e5, e6, e7, hg, hc, hnx⟩, T⟩
        by_cases hi' : i < k + 1
        · have hi1 : (i : Int) ≤ k := by omega
          have hwi := succ_wrap (k := i) (by omega)
          simp (disch := omega) only [W_skip, W_ext, W_ret, W_seq, thenQ_nrm, thenQ_ext, thenQ_ret, W_cond, selW_true, selW_false, W_blk, blkQ_nrm, blkQ_ret, blkQ_same, blkQ_ne, W_reg, nrmQ_is, WR_nil, WR_cons, selO_true, selO_false, bindO_some, loopQ_nrm, loopQ_ext, loopQ_ret, wanted_none, wanted_some, wantV_1, wantV_0, wantV_undef, ev_t, ev_c, put_some, put_none, upd_same, upd_ne, List.length_cons, List.length_nil, List.map_cons, List.map_nil, allow_no, allow_lt, argEnv_0, argEnv_1, argEnv_2, argEnv_3, argEnv_4, argEnv_5, res_1, res_2, retQ_nrm, retQ_ret, o_mv, o_pick, vPick_t, vPick_f, o_new, o_box, vBox_S, boxD_ok, vMap_some, vMapL_some, o_build, o_ld, vLd_ptr, vLd_S, ldS_ok, selB_true, o_st, vSt_S, stS_ok, stD_ok, o_nilck, vNil_ptr, vNil_mp, vNil_fn, o_bin, o_un, o_mkfn, o_fa, vFa_mp, vFa_S, faD_ok, o_fld, vFld_agg, o_ia, vIa_sl, vIa_ms, o_iaa, vIaa_ptr, vIaa_mp, o_len, vLen_sl, vLen_ms, o_mx, o_mn, vMx_i, vMn_i, o_ext, vExt_tup, b_add, b_sub, b_mul, b_lss, b_leq, b_gtr, b_geq, b_eql, b_neq, o_pure, List.nil_append, List.append_nil, List.cons_append, frz_d_i, frz_d_b, frz_d_s, frz_d_nilp, frz_d_ptr, frz_d_sl, frz_d_fn0, Bool.not_true, Bool.not_false, Bool.true_and, Bool.and_true, Bool.false_and, Bool.and_false, decide_true, decide_false, beq_self_eq_true, Bool.true_eq_false, Bool.false_eq_true, Nat.zero_add, Nat.add_zero, Int.toNat_natCast, ge_iff_le, gt_iff_lt, fill_S, fillD_ok, fill_nil, cellsOf_agg, cellsOf_i, cellsOf_b, cellsOf_s, cellsOf_ptr, cellsOf_nilp, cellsOf_sl, cellsOf_mp, cellsOf_fn, one_i, one_b, one_s, one_ptr, one_nilp, one_sl, one_mp, one_fn, List.all_cons, List.all_nil, splice_1, splice_2, splice_3, part_0, part_1, part_2, drop_0, g0_nx, g0_hp, List.set_cons_zero, List.set_cons_succ, List.length_append, List.length_replicate, Nat.reduceAdd, Nat.reduceMul, Nat.reduceSub, eq_self, true_and, and_true, vPure_S, purS_some, purD_some, purE_true, frzL_cons, frzL_nil, consO_ok, flat_i, flat_b, flat_s, flat_nilp, flat_ptr, flat_sl, flat_agg, flat_tup, vis_i, vis_b, vis_s, vis_nilp, vis_ptr, vis_sl, vis_fn0, List.flatMap_cons, List.flatMap_nil, isEmpty_nil, Bool.true_or, Bool.false_or, Bool.or_true, Bool.or_false, frz_P, frz_Q, frzP_cells, frzB_true, map_some', rd_S, o_bsl, vBsl_t, vBsl_f, o_app, appD_ok, vApp_rig, vApp_rig0, appK_ok, vApp_own, o_eqn, o_eqb, o_eqa, aeqn_pn, aeqn_np, aeqn_mn, aeqn_nn, aeqb_bb, negb_t, negb_f, aun_not, midQ_nrm, evC_len, evC_one, evC_flat, evC_all, ev_th, ev_kd, ev_md, ev_lc, ev_vl, ev_ex, grC_len, grC_one, grC_all, gr_locs, gr_evs, gr_rf, gr_co, gr_rmw, gr_data, gr_ctrl, gr_ctrli, frz_gr, frz_ev, vis_gr, vis_ev, splice_ev, evsC_len, coC_len, o_raw, vRaw_fn, res_0, retP_nrm, retP_ret, o_mget, vMget_S, mgS_map, o_mkmap, o_mput, vMput_S, mpS_map, mpO_none, part_22, Int.toNat_zero, Nat.zero_mul, part_3, cellsOf_ms, one_ms, e5, e6, e7, e9, hi1]
          refine W_loop (fun q e g => ∃ j t1 t2, q = r - j ∧ j ≤ r ∧ e 9 = .i .i64 i ∧ e 10 = .i .i64 j ∧ LnSt k r (lnX k (rdsK r i ++ List.replicate j (i : Int))) k t3 t1 t2 e g ∧ Tk2 g t1 t2) r ?_ ?_
          · refine ⟨0, t1, t2, rfl, Nat.zero_le _, ?_⟩
            simp (disch := omega) only [W_skip, W_ext, W_ret, W_seq, thenQ_nrm, thenQ_ext, thenQ_ret, W_cond, selW_true, selW_false, W_blk, blkQ_nrm, blkQ_ret, blkQ_same, blkQ_ne, W_reg, nrmQ_is, WR_nil, WR_cons, selO_true, selO_false, bindO_some, loopQ_nrm, loopQ_ext, loopQ_ret, wanted_none, wanted_some, wantV_1, wantV_0, wantV_undef, ev_t, ev_c, put_some, put_none, upd_same, upd_ne, List.length_cons, List.length_nil, List.map_cons, List.map_nil, allow_no, allow_lt, argEnv_0, argEnv_1, argEnv_2, argEnv_3, argEnv_4, argEnv_5, res_1, res_2, retQ_nrm, retQ_ret, o_mv, o_pick, vPick_t, vPick_f, o_new, o_box, vBox_S, boxD_ok, vMap_some, vMapL_some, o_build, o_ld, vLd_ptr, vLd_S, ldS_ok, selB_true, o_st, vSt_S, stS_ok, stD_ok, o_nilck, vNil_ptr, vNil_mp, vNil_fn, o_bin, o_un, o_mkfn, o_fa, vFa_mp, vFa_S, faD_ok, o_fld, vFld_agg, o_ia, vIa_sl, vIa_ms, o_iaa, vIaa_ptr, vIaa_mp, o_len, vLen_sl, vLen_ms, o_mx, o_mn, vMx_i, vMn_i, o_ext, vExt_tup, b_add, b_sub, b_mul, b_lss, b_leq, b_gtr, b_geq, b_eql, b_neq, o_pure, List.nil_append, List.append_nil, List.cons_append, frz_d_i, frz_d_b, frz_d_s, frz_d_nilp, frz_d_ptr, frz_d_sl, frz_d_fn0, Bool.not_true, Bool.not_false, Bool.true_and, Bool.and_true, Bool.false_and, Bool.and_false, decide_true, decide_false, beq_self_eq_true, Bool.true_eq_false, Bool.false_eq_true, Nat.zero_add, Nat.add_zero, Int.toNat_natCast, ge_iff_le, gt_iff_lt, fill_S, fillD_ok, fill_nil, cellsOf_agg, cellsOf_i, cellsOf_b, cellsOf_s, cellsOf_ptr, cellsOf_nilp, cellsOf_sl, cellsOf_mp, cellsOf_fn, one_i, one_b, one_s, one_ptr, one_nilp, one_sl, one_mp, one_fn, List.all_cons, List.all_nil, splice_1, splice_2, splice_3, part_0, part_1, part_2, drop_0, g0_nx, g0_hp, List.set_cons_zero, List.set_cons_succ, List.length_append, List.length_replicate, Nat.reduceAdd, Nat.reduceMul, Nat.reduceSub, eq_self, true_and, and_true, vPure_S, purS_some, purD_some, purE_true, frzL_cons, frzL_nil, consO_ok, flat_i, flat_b, flat_s, flat_nilp, flat_ptr, flat_sl, flat_agg, flat_tup, vis_i, vis_b, vis_s, vis_nilp, vis_ptr, vis_sl, vis_fn0, List.flatMap_cons, List.flatMap_nil, isEmpty_nil, Bool.true_or, Bool.false_or, Bool.or_true, Bool.or_false, frz_P, frz_Q, frzP_cells, frzB_true, map_some', rd_S, o_bsl, vBsl_t, vBsl_f, o_app, appD_ok, vApp_rig, vApp_rig0, appK_ok, vApp_own, o_eqn, o_eqb, o_eqa, aeqn_pn, aeqn_np, aeqn_mn, aeqn_nn, aeqb_bb, negb_t, negb_f, aun_not, midQ_nrm, LnSt, e5, e6, e7, e9, hc, List.replicate_zero, List.append_nil]
            exact ⟨rfl, ⟨hg, by first | omega | (dsimp only; omega)⟩, T.on (by omega)⟩
          · rintro q e g ⟨j, t1, t2, rfl, hj, e9, e10, ⟨e5, e6, e7, hg, hc, hnx⟩, T⟩
            by_cases hj' : j < r
            · have hj1 : (j : Int) < r := by omega
              have hwj := succ_wrap (k := j) (by omega)
              have hrs : rdsK r i ++ List.replicate (j + 1) (i : Int) = (rdsK r i ++ List.replicate j (i : Int)) ++ [(i : Int)] := by rw [List.replicate_succ', List.append_assoc]
              have hL : (rdsK r i ++ List.replicate j (i : Int)).length ≤ 50 := by
                rw [List.length_append, rdsK_len, List.length_replicate]
                have : i * r ≤ 6 * 2 := Nat.mul_le_mul (by omega) (by omega)
                omega
              generalize rdsK r i ++ List.replicate j (i : Int) = rs at hg hrs hL
              have hE := evsC_len (lnX k rs).evs
              have hR : (intsC (lnX k rs).rf).length = (lnX k rs).rf.length := by simp [intsC]
              have hEl : (lnX k rs).evs.length ≤ 100 := by rw [lnX_len]; omega
              have hRl : (lnX k rs).rf.length ≤ 100 := by simp [lnX]; omega
              have hw := lnC_r k rs (i : Int)
              have hbe : evC r2E = [.i .i64 2, .i .i64 1, .i .i64 0, .i .i64 0, .i .i64 0, .b false] := rfl
              unfold lnC at hg
              rcases T with ⟨rfl, rfl⟩ | ⟨a, b, rfl, rfl, ab, la, lb, na, nb⟩
              · simp (disch := omega) only [W_skip, W_ext, W_ret, W_seq, thenQ_nrm, thenQ_ext, thenQ_ret, W_cond, selW_true, selW_false, W_blk, blkQ_nrm, blkQ_ret, blkQ_same, blkQ_ne, W_reg, nrmQ_is, WR_nil, WR_cons, selO_true, selO_false, bindO_some, loopQ_nrm, loopQ_ext, loopQ_ret, wanted_none, wanted_some, wantV_1, wantV_0, wantV_undef, ev_t, ev_c, put_some, put_none, upd_same, upd_ne, List.length_cons, List.length_nil, List.map_cons, List.map_nil, allow_no, allow_lt, argEnv_0, argEnv_1, argEnv_2, argEnv_3, argEnv_4, argEnv_5, res_1, res_2, retQ_nrm, retQ_ret, o_mv, o_pick, vPick_t, vPick_f, o_new, o_box, vBox_S, boxD_ok, vMap_some, vMapL_some, o_build, o_ld, vLd_ptr, vLd_S, ldS_ok, selB_true, o_st, vSt_S, stS_ok, stD_ok, o_nilck, vNil_ptr, vNil_mp, vNil_fn, o_bin, o_un, o_mkfn, o_fa, vFa_mp, vFa_S, faD_ok, o_fld, vFld_agg, o_ia, vIa_sl, vIa_ms, o_iaa, vIaa_ptr, vIaa_mp, o_len, vLen_sl, vLen_ms, o_mx, o_mn, vMx_i, vMn_i, o_ext, vExt_tup, b_add, b_sub, b_mul, b_lss, b_leq, b_gtr, b_geq, b_eql, b_neq, o_pure, List.nil_append, List.append_nil, List.cons_append, frz_d_i, frz_d_b, frz_d_s, frz_d_nilp, frz_d_ptr, frz_d_sl, frz_d_fn0, Bool.not_true, Bool.not_false, Bool.true_and, Bool.and_true, Bool.false_and, Bool.and_false, decide_true, decide_false, beq_self_eq_true, Bool.true_eq_false, Bool.false_eq_true, Nat.zero_add, Nat.add_zero, Int.toNat_natCast, ge_iff_le, gt_iff_lt, fill_S, fillD_ok, fill_nil, cellsOf_agg, cellsOf_i, cellsOf_b, cellsOf_s, cellsOf_ptr, cellsOf_nilp, cellsOf_sl, cellsOf_mp, cellsOf_fn, one_i, one_b, one_s, one_ptr, one_nilp, one_sl, one_mp, one_fn, List.all_cons, List.all_nil, splice_1, splice_2, splice_3, part_0, part_1, part_2, drop_0, g0_nx, g0_hp, List.set_cons_zero, List.set_cons_succ, List.length_append, List.length_replicate, Nat.reduceAdd, Nat.reduceMul, Nat.reduceSub, eq_self, true_and, and_true, vPure_S, purS_some, purD_some, purE_true, frzL_cons, frzL_nil, consO_ok, flat_i, flat_b, flat_s, flat_nilp, flat_ptr, flat_sl, flat_agg, flat_tup, vis_i, vis_b, vis_s, vis_nilp, vis_ptr, vis_sl, vis_fn0, List.flatMap_cons, List.flatMap_nil, isEmpty_nil, Bool.true_or, Bool.false_or, Bool.or_true, Bool.or_false, frz_P, frz_Q, frzP_cells, frzB_true, map_some', rd_S, o_bsl, vBsl_t, vBsl_f, o_app, appD_ok, vApp_rig, vApp_rig0, appK_ok, vApp_own, o_eqn, o_eqb, o_eqa, aeqn_pn, aeqn_np, aeqn_mn, aeqn_nn, aeqb_bb, negb_t, negb_f, aun_not, midQ_nrm, evC_len, evC_one, evC_flat, evC_all, ev_th, ev_kd, ev_md, ev_lc, ev_vl, ev_ex, grC_len, grC_one, grC_all, gr_locs, gr_evs, gr_rf, gr_co, gr_rmw, gr_data, gr_ctrl, gr_ctrli, frz_gr, frz_ev, vis_gr, vis_ev, splice_ev, evsC_len, coC_len, o_raw, vRaw_fn, res_0, retP_nrm, retP_ret, o_mget, vMget_S, mgS_map, o_mkmap, o_mput, vMput_S, mpS_map, mpO_none, part_22, Int.toNat_zero, Nat.zero_mul, part_3, cellsOf_ms, one_ms, e5, e6, e7, e9, e10, hg, hc, hj1, hwj, s6, hE, hR, List.length_set]
                refine ⟨r - (j + 1), by omega, j + 1, .own (g.nx + 3 + 4) 6, .own (g.nx + 3 + 9) 1, rfl, by omega, rfl, ?_, ?_⟩
                · simp (disch := omega) only [LnSt, W_skip, W_ext, W_ret, W_seq, thenQ_nrm, thenQ_ext, thenQ_ret, W_cond, selW_true, selW_false, W_blk, blkQ_nrm, blkQ_ret, blkQ_same, blkQ_ne, W_reg, nrmQ_is, WR_nil, WR_cons, selO_true, selO_false, bindO_some, loopQ_nrm, loopQ_ext, loopQ_ret, wanted_none, wanted_some, wantV_1, wantV_0, wantV_undef, ev_t, ev_c, put_some, put_none, upd_same, upd_ne, List.length_cons, List.length_nil, List.map_cons, List.map_nil, allow_no, allow_lt, argEnv_0, argEnv_1, argEnv_2, argEnv_3, argEnv_4, argEnv_5, res_1, res_2, retQ_nrm, retQ_ret, o_mv, o_pick, vPick_t, vPick_f, o_new, o_box, vBox_S, boxD_ok, vMap_some, vMapL_some, o_build, o_ld, vLd_ptr, vLd_S, ldS_ok, selB_true, o_st, vSt_S, stS_ok, stD_ok, o_nilck, vNil_ptr, vNil_mp, vNil_fn, o_bin, o_un, o_mkfn, o_fa, vFa_mp, vFa_S, faD_ok, o_fld, vFld_agg, o_ia, vIa_sl, vIa_ms, o_iaa, vIaa_ptr, vIaa_mp, o_len, vLen_sl, vLen_ms, o_mx, o_mn, vMx_i, vMn_i, o_ext, vExt_tup, b_add, b_sub, b_mul, b_lss, b_leq, b_gtr, b_geq, b_eql, b_neq, o_pure, List.nil_append, List.append_nil, List.cons_append, frz_d_i, frz_d_b, frz_d_s, frz_d_nilp, frz_d_ptr, frz_d_sl, frz_d_fn0, Bool.not_true, Bool.not_false, Bool.true_and, Bool.and_true, Bool.false_and, Bool.and_false, decide_true, decide_false, beq_self_eq_true, Bool.true_eq_false, Bool.false_eq_true, Nat.zero_add, Nat.add_zero, Int.toNat_natCast, ge_iff_le, gt_iff_lt, fill_S, fillD_ok, fill_nil, cellsOf_agg, cellsOf_i, cellsOf_b, cellsOf_s, cellsOf_ptr, cellsOf_nilp, cellsOf_sl, cellsOf_mp, cellsOf_fn, one_i, one_b, one_s, one_ptr, one_nilp, one_sl, one_mp, one_fn, List.all_cons, List.all_nil, splice_1, splice_2, splice_3, part_0, part_1, part_2, drop_0, g0_nx, g0_hp, List.set_cons_zero, List.set_cons_succ, List.length_append, List.length_replicate, Nat.reduceAdd, Nat.reduceMul, Nat.reduceSub, eq_self, true_and, and_true, vPure_S, purS_some, purD_some, purE_true, frzL_cons, frzL_nil, consO_ok, flat_i, flat_b, flat_s, flat_nilp, flat_ptr, flat_sl, flat_agg, flat_tup, vis_i, vis_b, vis_s, vis_nilp, vis_ptr, vis_sl, vis_fn0, List.flatMap_cons, List.flatMap_nil, isEmpty_nil, Bool.true_or, Bool.false_or, Bool.or_true, Bool.or_false, frz_P, frz_Q, frzP_cells, frzB_true, map_some', rd_S, o_bsl, vBsl_t, vBsl_f, o_app, appD_ok, vApp_rig, vApp_rig0, appK_ok, vApp_own, o_eqn, o_eqb, o_eqa, aeqn_pn, aeqn_np, aeqn_mn, aeqn_nn, aeqb_bb, negb_t, negb_f, aun_not, midQ_nrm, hrs, hw, hbe, e5, e6, e7, hc]
                  first | omega | (dsimp only; omega)
                · refine .inr ⟨_, _, rfl, rfl, by omega, ?_, ?_, ?_, ?_⟩ <;> first | (simp (disch := omega) only [upd_same, upd_ne]; done) | omega | (dsimp only; omega)
              · have a11 : a ≠ 11 := fun h => by rw [h, hc] at la; cases la
                have a13 : a ≠ 13 := fun h => by rw [h, hg] at la; cases la
                have b11 : b ≠ 11 := fun h => by rw [h, hc] at lb; cases lb
                have b13 : b ≠ 13 := fun h => by rw [h, hg] at lb; cases lb
                simp (disch := omega) only [W_skip, W_ext, W_ret, W_seq, thenQ_nrm, thenQ_ext, thenQ_ret, W_cond, selW_true, selW_false, W_blk, blkQ_nrm, blkQ_ret, blkQ_same, blkQ_ne, W_reg, nrmQ_is, WR_nil, WR_cons, selO_true, selO_false, bindO_some, loopQ_nrm, loopQ_ext, loopQ_ret, wanted_none, wanted_some, wantV_1, wantV_0, wantV_undef, ev_t, ev_c, put_some, put_none, upd_same, upd_ne, List.length_cons, List.length_nil, List.map_cons, List.map_nil, allow_no, allow_lt, argEnv_0, argEnv_1, argEnv_2, argEnv_3, argEnv_4, argEnv_5, res_1, res_2, retQ_nrm, retQ_ret, o_mv, o_pick, vPick_t, vPick_f, o_new, o_box, vBox_S, boxD_ok, vMap_some, vMapL_some, o_build, o_ld, vLd_ptr, vLd_S, ldS_ok, selB_true, o_st, vSt_S, stS_ok, stD_ok, o_nilck, vNil_ptr, vNil_mp, vNil_fn, o_bin, o_un, o_mkfn, o_fa, vFa_mp, vFa_S, faD_ok, o_fld, vFld_agg, o_ia, vIa_sl, vIa_ms, o_iaa, vIaa_ptr, vIaa_mp, o_len, vLen_sl, vLen_ms, o_mx, o_mn, vMx_i, vMn_i, o_ext, vExt_tup, b_add, b_sub, b_mul, b_lss, b_leq, b_gtr, b_geq, b_eql, b_neq, o_pure, List.nil_append, List.append_nil, List.cons_append, frz_d_i, frz_d_b, frz_d_s, frz_d_nilp, frz_d_ptr, frz_d_sl, frz_d_fn0, Bool.not_true, Bool.not_false, Bool.true_and, Bool.and_true, Bool.false_and, Bool.and_false, decide_true, decide_false, beq_self_eq_true, Bool.true_eq_false, Bool.false_eq_true, Nat.zero_add, Nat.add_zero, Int.toNat_natCast, ge_iff_le, gt_iff_lt, fill_S, fillD_ok, fill_nil, cellsOf_agg, cellsOf_i, cellsOf_b, cellsOf_s, cellsOf_ptr, cellsOf_nilp, cellsOf_sl, cellsOf_mp, cellsOf_fn, one_i, one_b, one_s, one_ptr, one_nilp, one_sl, one_mp, one_fn, List.all_cons, List.all_nil, splice_1, splice_2, splice_3, part_0, part_1, part_2, drop_0, g0_nx, g0_hp, List.set_cons_zero, List.set_cons_succ, List.length_append, List.length_replicate, Nat.reduceAdd, Nat.reduceMul, Nat.reduceSub, eq_self, true_and, and_true, vPure_S, purS_some, purD_some, purE_true, frzL_cons, frzL_nil, consO_ok, flat_i, flat_b, flat_s, flat_nilp, flat_ptr, flat_sl, flat_agg, flat_tup, vis_i, vis_b, vis_s, vis_nilp, vis_ptr, vis_sl, vis_fn0, List.flatMap_cons, List.flatMap_nil, isEmpty_nil, Bool.true_or, Bool.false_or, Bool.or_true, Bool.or_false, frz_P, frz_Q, frzP_cells, frzB_true, map_some', rd_S, o_bsl, vBsl_t, vBsl_f, o_app, appD_ok, vApp_rig, vApp_rig0, appK_ok, vApp_own, o_eqn, o_eqb, o_eqa, aeqn_pn, aeqn_np, aeqn_mn, aeqn_nn, aeqb_bb, negb_t, negb_f, aun_not, midQ_nrm, evC_len, evC_one, evC_flat, evC_all, ev_th, ev_kd, ev_md, ev_lc, ev_vl, ev_ex, grC_len, grC_one, grC_all, gr_locs, gr_evs, gr_rf, gr_co, gr_rmw, gr_data, gr_ctrl, gr_ctrli, frz_gr, frz_ev, vis_gr, vis_ev, splice_ev, evsC_len, coC_len, o_raw, vRaw_fn, res_0, retP_nrm, retP_ret, o_mget, vMget_S, mgS_map, o_mkmap, o_mput, vMput_S, mpS_map, mpO_none, part_22, Int.toNat_zero, Nat.zero_mul, part_3, cellsOf_ms, one_ms, e5, e6, e7, e9, e10, hg, hc, hj1, hwj, s6, hE, hR, List.length_set, la, lb]
                refine ⟨r - (j + 1), by omega, j + 1, .own (g.nx + 3 + 4) 6, .own (g.nx + 3 + 9) 1, rfl, by omega, rfl, ?_, ?_⟩
                · simp (disch := omega) only [LnSt, W_skip, W_ext, W_ret, W_seq, thenQ_nrm, thenQ_ext, thenQ_ret, W_cond, selW_true, selW_false, W_blk, blkQ_nrm, blkQ_ret, blkQ_same, blkQ_ne, W_reg, nrmQ_is, WR_nil, WR_cons, selO_true, selO_false, bindO_some, loopQ_nrm, loopQ_ext, loopQ_ret, wanted_none, wanted_some, wantV_1, wantV_0, wantV_undef, ev_t, ev_c, put_some, put_none, upd_same, upd_ne, List.length_cons, List.length_nil, List.map_cons, List.map_nil, allow_no, allow_lt, argEnv_0, argEnv_1, argEnv_2, argEnv_3, argEnv_4, argEnv_5, res_1, res_2, retQ_nrm, retQ_ret, o_mv, o_pick, vPick_t, vPick_f, o_new, o_box, vBox_S, boxD_ok, vMap_some, vMapL_some, o_build, o_ld, vLd_ptr, vLd_S, ldS_ok, selB_true, o_st, vSt_S, stS_ok, stD_ok, o_nilck, vNil_ptr, vNil_mp, vNil_fn, o_bin, o_un, o_mkfn, o_fa, vFa_mp, vFa_S, faD_ok, o_fld, vFld_agg, o_ia, vIa_sl, vIa_ms, o_iaa, vIaa_ptr, vIaa_mp, o_len, vLen_sl, vLen_ms, o_mx, o_mn, vMx_i, vMn_i, o_ext, vExt_tup, b_add, b_sub, b_mul, b_lss, b_leq, b_gtr, b_geq, b_eql, b_neq, o_pure, List.nil_append, List.append_nil, List.cons_append, frz_d_i, frz_d_b, frz_d_s, frz_d_nilp, frz_d_ptr, frz_d_sl, frz_d_fn0, Bool.not_true, Bool.not_false, Bool.true_and, Bool.and_true, Bool.false_and, Bool.and_false, decide_true, decide_false, beq_self_eq_true, Bool.true_eq_false, Bool.false_eq_true, Nat.zero_add, Nat.add_zero, Int.toNat_natCast, ge_iff_le, gt_iff_lt, fill_S, fillD_ok, fill_nil, cellsOf_agg, cellsOf_i, cellsOf_b, cellsOf_s, cellsOf_ptr, cellsOf_nilp, cellsOf_sl, cellsOf_mp, cellsOf_fn, one_i, one_b, one_s, one_ptr, one_nilp, one_sl, one_mp, one_fn, List.all_cons, List.all_nil, splice_1, splice_2, splice_3, part_0, part_1, part_2, drop_0, g0_nx, g0_hp, List.set_cons_zero, List.set_cons_succ, List.length_append, List.length_replicate, Nat.reduceAdd, Nat.reduceMul, Nat.reduceSub, eq_self, true_and, and_true, vPure_S, purS_some, purD_some, purE_true, frzL_cons, frzL_nil, consO_ok, flat_i, flat_b, flat_s, flat_nilp, flat_ptr, flat_sl, flat_agg, flat_tup, vis_i, vis_b, vis_s, vis_nilp, vis_ptr, vis_sl, vis_fn0, List.flatMap_cons, List.flatMap_nil, isEmpty_nil, Bool.true_or, Bool.false_or, Bool.or_true, Bool.or_false, frz_P, frz_Q, frzP_cells, frzB_true, map_some', rd_S, o_bsl, vBsl_t, vBsl_f, o_app, appD_ok, vApp_rig, vApp_rig0, appK_ok, vApp_own, o_eqn, o_eqb, o_eqa, aeqn_pn, aeqn_np, aeqn_mn, aeqn_nn, aeqb_bb, negb_t, negb_f, aun_not, midQ_nrm, hrs, hw, hbe, e5, e6, e7, hc]
                  first | omega | (dsimp only; omega)
                · refine .inr ⟨_, _, rfl, rfl, by omega, ?_, ?_, ?_, ?_⟩ <;> first | (simp (disch := omega) only [upd_same, upd_ne]; done) | omega | (dsimp only; omega)
            · obtain rfl : j = r := by omega
              have hj1 : ¬ ((j : Int) < j) := by omega
              simp (disch := omega) only [W_skip, W_ext, W_ret, W_seq, thenQ_nrm, thenQ_ext, thenQ_ret, W_cond, selW_true, selW_false, W_blk, blkQ_nrm, blkQ_ret, blkQ_same, blkQ_ne, W_reg, nrmQ_is, WR_nil, WR_cons, selO_true, selO_false, bindO_some, loopQ_nrm, loopQ_ext, loopQ_ret, wanted_none, wanted_some, wantV_1, wantV_0, wantV_undef, ev_t, ev_c, put_some, put_none, upd_same, upd_ne, List.length_cons, List.length_nil, List.map_cons, List.map_nil, allow_no, allow_lt, argEnv_0, argEnv_1, argEnv_2, argEnv_3, argEnv_4, argEnv_5, res_1, res_2, retQ_nrm, retQ_ret, o_mv, o_pick, vPick_t, vPick_f, o_new, o_box, vBox_S, boxD_ok, vMap_some, vMapL_some, o_build, o_ld, vLd_ptr, vLd_S, ldS_ok, selB_true, o_st, vSt_S, stS_ok, stD_ok, o_nilck, vNil_ptr, vNil_mp, vNil_fn, o_bin, o_un, o_mkfn, o_fa, vFa_mp, vFa_S, faD_ok, o_fld, vFld_agg, o_ia, vIa_sl, vIa_ms, o_iaa, vIaa_ptr, vIaa_mp, o_len, vLen_sl, vLen_ms, o_mx, o_mn, vMx_i, vMn_i, o_ext, vExt_tup, b_add, b_sub, b_mul, b_lss, b_leq, b_gtr, b_geq, b_eql, b_neq, o_pure, List.nil_append, List.append_nil, List.cons_append, frz_d_i, frz_d_b, frz_d_s, frz_d_nilp, frz_d_ptr, frz_d_sl, frz_d_fn0, Bool.not_true, Bool.not_false, Bool.true_and, Bool.and_true, Bool.false_and, Bool.and_false, decide_true, decide_false, beq_self_eq_true, Bool.true_eq_false, Bool.false_eq_true, Nat.zero_add, Nat.add_zero, Int.toNat_natCast, ge_iff_le, gt_iff_lt, fill_S, fillD_ok, fill_nil, cellsOf_agg, cellsOf_i, cellsOf_b, cellsOf_s, cellsOf_ptr, cellsOf_nilp, cellsOf_sl, cellsOf_mp, cellsOf_fn, one_i, one_b, one_s, one_ptr, one_nilp, one_sl, one_mp, one_fn, List.all_cons, List.all_nil, splice_1, splice_2, splice_3, part_0, part_1, part_2, drop_0, g0_nx, g0_hp, List.set_cons_zero, List.set_cons_succ, List.length_append, List.length_replicate, Nat.reduceAdd, Nat.reduceMul, Nat.reduceSub, eq_self, true_and, and_true, vPure_S, purS_some, purD_some, purE_true, frzL_cons, frzL_nil, consO_ok, flat_i, flat_b, flat_s, flat_nilp, flat_ptr, flat_sl, flat_agg, flat_tup, vis_i, vis_b, vis_s, vis_nilp, vis_ptr, vis_sl, vis_fn0, List.flatMap_cons, List.flatMap_nil, isEmpty_nil, Bool.true_or, Bool.false_or, Bool.or_true, Bool.or_false, frz_P, frz_Q, frzP_cells, frzB_true, map_some', rd_S, o_bsl, vBsl_t, vBsl_f, o_app, appD_ok, vApp_rig, vApp_rig0, appK_ok, vApp_own, o_eqn, o_eqb, o_eqa, aeqn_pn, aeqn_np, aeqn_mn, aeqn_nn, aeqb_bb, negb_t, negb_f, aun_not, midQ_nrm, evC_len, evC_one, evC_flat, evC_all, ev_th, ev_kd, ev_md, ev_lc, ev_vl, ev_ex, grC_len, grC_one, grC_all, gr_locs, gr_evs, gr_rf, gr_co, gr_rmw, gr_data, gr_ctrl, gr_ctrli, frz_gr, frz_ev, vis_gr, vis_ev, splice_ev, evsC_len, coC_len, o_raw, vRaw_fn, res_0, retP_nrm, retP_ret, o_mget, vMget_S, mgS_map, o_mkmap, o_mput, vMput_S, mpS_map, mpO_none, part_22, Int.toNat_zero, Nat.zero_mul, part_3, cellsOf_ms, one_ms, e5, e6, e7, e9, e10, hj1, hwi]
              refine ⟨k + 1 - (i + 1), by omega, i + 1, t1, t2, rfl, by omega, rfl, ?_, T.on (by omega)⟩
              simp (disch := omega) only [LnSt, W_skip, W_ext, W_ret, W_seq, thenQ_nrm, thenQ_ext, thenQ_ret, W_cond, selW_true, selW_false, W_blk, blkQ_nrm, blkQ_ret, blkQ_same, blkQ_ne, W_reg, nrmQ_is, WR_nil, WR_cons, selO_true, selO_false, bindO_some, loopQ_nrm, loopQ_ext, loopQ_ret, wanted_none, wanted_some, wantV_1, wantV_0, wantV_undef, ev_t, ev_c, put_some, put_none, upd_same, upd_ne, List.length_cons, List.length_nil, List.map_cons, List.map_nil, allow_no, allow_lt, argEnv_0, argEnv_1, argEnv_2, argEnv_3, argEnv_4, argEnv_5, res_1, res_2, retQ_nrm, retQ_ret, o_mv, o_pick, vPick_t, vPick_f, o_new, o_box, vBox_S, boxD_ok, vMap_some, vMapL_some, o_build, o_ld, vLd_ptr, vLd_S, ldS_ok, selB_true, o_st, vSt_S, stS_ok, stD_ok, o_nilck, vNil_ptr, vNil_mp, vNil_fn, o_bin, o_un, o_mkfn, o_fa, vFa_mp, vFa_S, faD_ok, o_fld, vFld_agg, o_ia, vIa_sl, vIa_ms, o_iaa, vIaa_ptr, vIaa_mp, o_len, vLen_sl, vLen_ms, o_mx, o_mn, vMx_i, vMn_i, o_ext, vExt_tup, b_add, b_sub, b_mul, b_lss, b_leq, b_gtr, b_geq, b_eql, b_neq, o_pure, List.nil_append, List.append_nil, List.cons_append, frz_d_i, frz_d_b, frz_d_s, frz_d_nilp, frz_d_ptr, frz_d_sl, frz_d_fn0, Bool.not_true, Bool.not_false, Bool.true_and, Bool.and_true, Bool.false_and, Bool.and_false, decide_true, decide_false, beq_self_eq_true, Bool.true_eq_false, Bool.false_eq_true, Nat.zero_add, Nat.add_zero, Int.toNat_natCast, ge_iff_le, gt_iff_lt, fill_S, fillD_ok, fill_nil, cellsOf_agg, cellsOf_i, cellsOf_b, cellsOf_s, cellsOf_ptr, cellsOf_nilp, cellsOf_sl, cellsOf_mp, cellsOf_fn, one_i, one_b, one_s, one_ptr, one_nilp, one_sl, one_mp, one_fn, List.all_cons, List.all_nil, splice_1, splice_2, splice_3, part_0, part_1, part_2, drop_0, g0_nx, g0_hp, List.set_cons_zero, List.set_cons_succ, List.length_append, List.length_replicate, Nat.reduceAdd, Nat.reduceMul, Nat.reduceSub, eq_self, true_and, and_true, vPure_S, purS_some, purD_some, purE_true, frzL_cons, frzL_nil, consO_ok, flat_i, flat_b, flat_s, flat_nilp, flat_ptr, flat_sl, flat_agg, flat_tup, vis_i, vis_b, vis_s, vis_nilp, vis_ptr, vis_sl, vis_fn0, List.flatMap_cons, List.flatMap_nil, isEmpty_nil, Bool.true_or, Bool.false_or, Bool.or_true, Bool.or_false, frz_P, frz_Q, frzP_cells, frzB_true, map_some', rd_S, o_bsl, vBsl_t, vBsl_f, o_app, appD_ok, vApp_rig, vApp_rig0, appK_ok, vApp_own, o_eqn, o_eqb, o_eqa, aeqn_pn, aeqn_np, aeqn_mn, aeqn_nn, aeqb_bb, negb_t, negb_f, aun_not, midQ_nrm, e5, e6, e7, hc, rdsK_succ]
              exact ⟨hg, by first | omega | (dsimp only; omega)⟩
        · obtain rfl : i = k + 1 := by omega
          have hi1 : ¬ (((k + 1 : Nat) : Int) ≤ k) := by omega
          simp (disch := omega) only [W_skip, W_ext, W_ret, W_seq, thenQ_nrm, thenQ_ext, thenQ_ret, W_cond, selW_true, selW_false, W_blk, blkQ_nrm, blkQ_ret, blkQ_same, blkQ_ne, W_reg, nrmQ_is, WR_nil, WR_cons, selO_true, selO_false, bindO_some, loopQ_nrm, loopQ_ext, loopQ_ret, wanted_none, wanted_some, wantV_1, wantV_0, wantV_undef, ev_t, ev_c, put_some, put_none, upd_same, upd_ne, List.length_cons, List.length_nil, List.map_cons, List.map_nil, allow_no, allow_lt, argEnv_0, argEnv_1, argEnv_2, argEnv_3, argEnv_4, argEnv_5, res_1, res_2, retQ_nrm, retQ_ret, o_mv, o_pick, vPick_t, vPick_f, o_new, o_box, vBox_S, boxD_ok, vMap_some, vMapL_some, o_build, o_ld, vLd_ptr, vLd_S, ldS_ok, selB_true, o_st, vSt_S, stS_ok, stD_ok, o_nilck, vNil_ptr, vNil_mp, vNil_fn, o_bin, o_un, o_mkfn, o_fa, vFa_mp, vFa_S, faD_ok, o_fld, vFld_agg, o_ia, vIa_sl, vIa_ms, o_iaa, vIaa_ptr, vIaa_mp, o_len, vLen_sl, vLen_ms, o_mx, o_mn, vMx_i, vMn_i, o_ext, vExt_tup, b_add, b_sub, b_mul, b_lss, b_leq, b_gtr, b_geq, b_eql, b_neq, o_pure, List.nil_append, List.append_nil, List.cons_append, frz_d_i, frz_d_b, frz_d_s, frz_d_nilp, frz_d_ptr, frz_d_sl, frz_d_fn0, Bool.not_true, Bool.not_false, Bool.true_and, Bool.and_true, Bool.false_and, Bool.and_false, decide_true, decide_false, beq_self_eq_true, Bool.true_eq_false, Bool.false_eq_true, Nat.zero_add, Nat.add_zero, Int.toNat_natCast, ge_iff_le, gt_iff_lt, fill_S, fillD_ok, fill_nil, cellsOf_agg, cellsOf_i, cellsOf_b, cellsOf_s, cellsOf_ptr, cellsOf_nilp, cellsOf_sl, cellsOf_mp, cellsOf_fn, one_i, one_b, one_s, one_ptr, one_nilp, one_sl, one_mp, one_fn, List.all_cons, List.all_nil, splice_1, splice_2, splice_3, part_0, part_1, part_2, drop_0, g0_nx, g0_hp, List.set_cons_zero, List.set_cons_succ, List.length_append, List.length_replicate, Nat.reduceAdd, Nat.reduceMul, Nat.reduceSub, eq_self, true_and, and_true, vPure_S, purS_some, purD_some, purE_true, frzL_cons, frzL_nil, consO_ok, flat_i, flat_b, flat_s, flat_nilp, flat_ptr, flat_sl, flat_agg, flat_tup, vis_i, vis_b, vis_s, vis_nilp, vis_ptr, vis_sl, vis_fn0, List.flatMap_cons, List.flatMap_nil, isEmpty_nil, Bool.true_or, Bool.false_or, Bool.or_true, Bool.or_false, frz_P, frz_Q, frzP_cells, frzB_true, map_some', rd_S, o_bsl, vBsl_t, vBsl_f, o_app, appD_ok, vApp_rig, vApp_rig0, appK_ok, vApp_own, o_eqn, o_eqb, o_eqa, aeqn_pn, aeqn_np, aeqn_mn, aeqn_nn, aeqb_bb, negb_t, negb_f, aun_not, midQ_nrm, evC_len, evC_one, evC_flat, evC_all, ev_th, ev_kd, ev_md, ev_lc, ev_vl, ev_ex, grC_len, grC_one, grC_all, gr_locs, gr_evs, gr_rf, gr_co, gr_rmw, gr_data, gr_ctrl, gr_ctrli, frz_gr, frz_ev, vis_gr, vis_ev, splice_ev, evsC_len, coC_len, o_raw, vRaw_fn, res_0, retP_nrm, retP_ret, o_mget, vMget_S, mgS_map, o_mkmap, o_mput, vMput_S, mpS_map, mpO_none, part_22, Int.toNat_zero, Nat.zero_mul, part_3, cellsOf_ms, one_ms, e5, e6, e7, e9, hi1]
          refine ⟨t1, t2, ?_⟩
          simp (disch := omega) only [LnSt, W_skip, W_ext, W_ret, W_seq, thenQ_nrm, thenQ_ext, thenQ_ret, W_cond, selW_true, selW_false, W_blk, blkQ_nrm, blkQ_ret, blkQ_same, blkQ_ne, W_reg, nrmQ_is, WR_nil, WR_cons, selO_true, selO_false, bindO_some, loopQ_nrm, loopQ_ext, loopQ_ret, wanted_none, wanted_some, wantV_1, wantV_0, wantV_undef, ev_t, ev_c, put_some, put_none, upd_same, upd_ne, List.length_cons, List.length_nil, List.map_cons, List.map_nil, allow_no, allow_lt, argEnv_0, argEnv_1, argEnv_2, argEnv_3, argEnv_4, argEnv_5, res_1, res_2, retQ_nrm, retQ_ret, o_mv, o_pick, vPick_t, vPick_f, o_new, o_box, vBox_S, boxD_ok, vMap_some, vMapL_some, o_build, o_ld, vLd_ptr, vLd_S, ldS_ok, selB_true, o_st, vSt_S, stS_ok, stD_ok, o_nilck, vNil_ptr, vNil_mp, vNil_fn, o_bin, o_un, o_mkfn, o_fa, vFa_mp, vFa_S, faD_ok, o_fld, vFld_agg, o_ia, vIa_sl, vIa_ms, o_iaa, vIaa_ptr, vIaa_mp, o_len, vLen_sl, vLen_ms, o_mx, o_mn, vMx_i, vMn_i, o_ext, vExt_tup, b_add, b_sub, b_mul, b_lss, b_leq, b_gtr, b_geq, b_eql, b_neq, o_pure, List.nil_append, List.append_nil, List.cons_append, frz_d_i, frz_d_b, frz_d_s, frz_d_nilp, frz_d_ptr, frz_d_sl, frz_d_fn0, Bool.not_true, Bool.not_false, Bool.true_and, Bool.and_true, Bool.false_and, Bool.and_false, decide_true, decide_false, beq_self_eq_true, Bool.true_eq_false, Bool.false_eq_true, Nat.zero_add, Nat.add_zero, Int.toNat_natCast, ge_iff_le, gt_iff_lt, fill_S, fillD_ok, fill_nil, cellsOf_agg, cellsOf_i, cellsOf_b, cellsOf_s, cellsOf_ptr, cellsOf_nilp, cellsOf_sl, cellsOf_mp, cellsOf_fn, one_i, one_b, one_s, one_ptr, one_nilp, one_sl, one_mp, one_fn, List.all_cons, List.all_nil, splice_1, splice_2, splice_3, part_0, part_1, part_2, drop_0, g0_nx, g0_hp, List.set_cons_zero, List.set_cons_succ, List.length_append, List.length_replicate, Nat.reduceAdd, Nat.reduceMul, Nat.reduceSub, eq_self, true_and, and_true, vPure_S, purS_some, purD_some, purE_true, frzL_cons, frzL_nil, consO_ok, flat_i, flat_b, flat_s, flat_nilp, flat_ptr, flat_sl, flat_agg, flat_tup, vis_i, vis_b, vis_s, vis_nilp, vis_ptr, vis_sl, vis_fn0, List.flatMap_cons, List.flatMap_nil, isEmpty_nil, Bool.true_or, Bool.false_or, Bool.or_true, Bool.or_false, frz_P, frz_Q, frzP_cells, frzB_true, map_some', rd_S, o_bsl, vBsl_t, vBsl_f, o_app, appD_ok, vApp_rig, vApp_rig0, appK_ok, vApp_own, o_eqn, o_eqb, o_eqa, aeqn_pn, aeqn_np, aeqn_mn, aeqn_nn, aeqb_bb, negb_t, negb_f, aun_not, midQ_nrm, e5, e6, e7, hc]
          exact ⟨hg, by first | omega | (dsimp only; omega)⟩
    · rintro e g ⟨t1, t2, ⟨e5, e6, e7, hg, hc, hnx⟩⟩
      have hok := line_ok hk hr
      have hX := line_few hk hr
      have hn := nOf_le (lineX k r)
      simp only [W_seq]
      rw [W_lck]
      have l13 : (lckG g (e 7)).hp 13 = some (.cells (lnC (lineX k r) t1 t2) true) := lck_hit hg (fun _ => by
        rw [e7]; show 13 ∈ vis g.hp (8 + 1) _
        simp only [vis, hg]; simp)
      have l11 : (lckG g (e 7)).hp 11 = some (.cells [.sl (intsC (coL k)) (k + 1) t3] true) := lck_hit hc (fun _ => by
        rw [e7]; show 11 ∈ vis g.hp (8 + 1) _
        simp only [vis, hg, lnC, List.drop_zero, List.flatMap_cons, hc]; simp)
      have lnx : 13 < (lckG g (e 7)).nx := hnx
      generalize lckG g (e 7) = g2 at l13 l11 lnx
      have hfr : ∀ n al, frz (rd ⟨g2.hp, n⟩ al) depth (.agg (lnC (lineX k r) t1 t2)) = selA (al 11) (some (.agg (grC (lineX k r)))) := by
        intro n al
        cases h : al 11 with
        | true => exact frz_lnC _ k _ t1 t2 t3 true (by rw [rd_ok h]; exact l11)
        | false =>
          show frz _ (8 + 1) _ = none
          have h11 : ({ hp := g2.hp, nx := n } : G).hp 11 = g2.hp 11 := rfl
          have : rd ⟨g2.hp, n⟩ al 11 = none := by unfold rd; rw [h]; rfl
          simp only [frz, lnC, frzL, this, Option.map_none]
      have hvi : ∀ n al, vis (rd ⟨g2.hp, n⟩ al) depth (.agg (lnC (lineX k r) t1 t2)) = visS (al 11) (vis (rd ⟨g2.hp, n⟩ al) depth (.agg (lnC (lineX k r) t1 t2))) := by
        intro n al
        cases h : al 11 with
        | true => exact vis_lnC _ k _ t1 t2 t3 (by rw [rd_ok h]; exact l11)
        | false => rfl
      obtain ⟨z, hz⟩ : ∃ z : Nat → (Nat → Bool) → List Nat, ∀ n al, vis (rd ⟨g2.hp, n⟩ al) depth (.agg (lnC (lineX k r) t1 t2)) = visS (al 11) (z n al) := ⟨_, hvi⟩
      have hga := ln_all (lineX k r) t1 t2
      have hgl := ln_len (lineX k r) t1 t2
      generalize lnC (lineX k r) t1 t2 = C at l13 hfr hz hga hgl
      obtain ⟨o1, o2, o3, o4, o5, o6, o7⟩ := hok
      generalize lineX k r = X at *
      have hpk : k * (k + 1) / 2 ≤ 15 := by
        have : k * (k + 1) ≤ 5 * 6 := Nat.mul_le_mul (by omega) (by omega)
        omega
      have hkk : k * (k + 1) ≤ 5 * 6 := Nat.mul_le_mul (by omega) (by omega)
      have hrk : r * (k + 1) ≤ 2 * 6 := Nat.mul_le_mul (by omega) (by omega)
      have hwk := succ_wrap (k := k) (by omega)
      have mulw : ∀ a b : Nat, a * b ≤ 1000 → IntKind.i64.wrap ((a : Int) * (b : Int)) = ((a * b : Nat) : Int) := by
        intro a b h
        have : (a : Int) * b = ((a * b : Nat) : Int) := by simp
        rw [this, i64_wrap (by omega) (by omega)]
      have addw : ∀ a b : Nat, a + b ≤ 1000 → IntKind.i64.wrap ((a : Int) + (b : Int)) = ((a + b : Nat) : Int) := by
        intro a b h
        rw [i64_wrap (by omega) (by omega)]; omega
      have m1 := mulw k (k + 1) (by omega)
      have q1 : IntKind.i64.wrap (((k * (k + 1) : Nat) : Int).tdiv 2) = ((k * (k + 1) / 2 : Nat) : Int) := by
        rw [Int.tdiv_eq_ediv_of_nonneg (by omega), i64_wrap (by omega) (by omega)]; omega
      have m2 := mulw r (k + 1) (by omega)
      have hrp : r * (k * (k + 1) / 2) ≤ 2 * 15 := Nat.mul_le_mul (by omega) hpk
      have hrr : r * r ≤ 2 * 2 := Nat.mul_le_mul (by omega) (by omega)
      have hrrp : r * r * (k * (k + 1) / 2) ≤ 4 * 15 := Nat.mul_le_mul hrr hpk
      generalize k * (k + 1) / 2 = pk at *
      have m3 := mulw r pk (by omega)
      have m4 := mulw r r (by omega)
      have m5 := mulw (r * r) pk (by omega)
      have a1 := addw (r * (k + 1)) pk (by omega)
      have a2 := addw (r * (k + 1) + pk) (r * pk) (by omega)
      have a3 := addw (r * (k + 1) + pk + r * pk) (r * pk) (by omega)
      have a4 := addw (r * (k + 1) + pk + r * pk + r * pk) (r * r * pk) (by omega)
      have z0 : (((0 : Nat) : Int) == 0) = true := rfl
      simp (disch := omega) only [W_skip, W_ext, W_ret, W_seq, thenQ_nrm, thenQ_ext, thenQ_ret, W_cond, selW_true, selW_false, W_blk, blkQ_nrm, blkQ_ret, blkQ_same, blkQ_ne, W_reg, nrmQ_is, WR_nil, WR_cons, selO_true, selO_false, bindO_some, loopQ_nrm, loopQ_ext, loopQ_ret, wanted_none, wanted_some, wantV_1, wantV_0, wantV_undef, ev_t, ev_c, put_some, put_none, upd_same, upd_ne, List.length_cons, List.length_nil, List.map_cons, List.map_nil, allow_no, allow_lt, argEnv_0, argEnv_1, argEnv_2, argEnv_3, argEnv_4, argEnv_5, res_1, res_2, retQ_nrm, retQ_ret, o_mv, o_pick, vPick_t, vPick_f, o_new, o_box, vBox_S, boxD_ok, vMap_some, vMapL_some, o_build, o_ld, vLd_ptr, vLd_S, ldS_ok, selB_true, o_st, vSt_S, stS_ok, stD_ok, o_nilck, vNil_ptr, vNil_mp, vNil_fn, o_bin, o_un, o_mkfn, o_fa, vFa_mp, vFa_S, faD_ok, o_fld, vFld_agg, o_ia, vIa_sl, vIa_ms, o_iaa, vIaa_ptr, vIaa_mp, o_len, vLen_sl, vLen_ms, o_mx, o_mn, vMx_i, vMn_i, o_ext, vExt_tup, b_add, b_sub, b_mul, b_lss, b_leq, b_gtr, b_geq, b_eql, b_neq, o_pure, List.nil_append, List.append_nil, List.cons_append, frz_d_i, frz_d_b, frz_d_s, frz_d_nilp, frz_d_ptr, frz_d_sl, frz_d_fn0, Bool.not_true, Bool.not_false, Bool.true_and, Bool.and_true, Bool.false_and, Bool.and_false, decide_true, decide_false, beq_self_eq_true, Bool.true_eq_false, Bool.false_eq_true, Nat.zero_add, Nat.add_zero, Int.toNat_natCast, ge_iff_le, gt_iff_lt, fill_S, fillD_ok, fill_nil, cellsOf_agg, cellsOf_i, cellsOf_b, cellsOf_s, cellsOf_ptr, cellsOf_nilp, cellsOf_sl, cellsOf_mp, cellsOf_fn, one_i, one_b, one_s, one_ptr, one_nilp, one_sl, one_mp, one_fn, List.all_cons, List.all_nil, splice_1, splice_2, splice_3, part_0, part_1, part_2, drop_0, g0_nx, g0_hp, List.set_cons_zero, List.set_cons_succ, List.length_append, List.length_replicate, Nat.reduceAdd, Nat.reduceMul, Nat.reduceSub, eq_self, true_and, and_true, vPure_S, purS_some, purD_some, purE_true, frzL_cons, frzL_nil, consO_ok, flat_i, flat_b, flat_s, flat_nilp, flat_ptr, flat_sl, flat_agg, flat_tup, vis_i, vis_b, vis_s, vis_nilp, vis_ptr, vis_sl, vis_fn0, List.flatMap_cons, List.flatMap_nil, isEmpty_nil, Bool.true_or, Bool.false_or, Bool.or_true, Bool.or_false, frz_P, frz_Q, frzP_cells, frzB_true, map_some', rd_S, o_bsl, vBsl_t, vBsl_f, o_app, appD_ok, vApp_rig, vApp_rig0, appK_ok, vApp_own, o_eqn, o_eqb, o_eqa, aeqn_pn, aeqn_np, aeqn_mn, aeqn_nn, aeqb_bb, negb_t, negb_f, aun_not, midQ_nrm, evC_len, evC_one, evC_flat, evC_all, ev_th, ev_kd, ev_md, ev_lc, ev_vl, ev_ex, grC_len, grC_one, grC_all, gr_locs, gr_evs, gr_rf, gr_co, gr_rmw, gr_data, gr_ctrl, gr_ctrli, frz_gr, frz_ev, vis_gr, vis_ev, splice_ev, evsC_len, coC_len, o_raw, vRaw_fn, res_0, retP_nrm, retP_ret, o_mget, vMget_S, mgS_map, o_mkmap, o_mput, vMput_S, mpS_map, mpO_none, part_22, e5, e6, e7, l13, hga, hgl, hfr, hz, visS_true, selA_true, sp_Rf pe h81 pr hX, sp_Co pe h81 pr hX, sp_Fr pe h81 pr hX, sp_Eco pe h81 pr hX, sp_Inner pe h81 pr hn, sp_Outer pe h81 pr hn, sp_pairs pr hn, sp_loops pr hn, b_quo, hwk, m1, m2, m3, m4, m5, q1, a1, a2, a3, a4, o1, o2, o3, o4, o5, o6, o7, z0, sp_awakeE hA h62 pe h60 h81 pr]
end Go.Ab
end
