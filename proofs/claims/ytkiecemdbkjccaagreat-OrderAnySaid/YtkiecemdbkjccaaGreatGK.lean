/- The abstract machine, its adequacy, what functions compute; lemmas, no claim of its own. -/
import Derived.Test.YtkiecemdbkjccaaGreatGA
import Derived.Test.YtkiecemdbkjccaaGreatGE
import Derived.Test.YtkiecemdbkjccaaGreatGH
import Derived.Test.YtkiecemdbkjccaaGreatGJ
section
/- Of a graph that may be: Eco, Loc, Inner, Outer are the document's; 'same', 'all' of exegesislaw09. -/
set_option linter.unusedVariables false
set_option linter.unusedSimpArgs false
namespace Go.Ab
variable {F : Funs}
theorem opM_out (φ : Bool → Bool → Bool) (A B : Mx) (N a b : Nat) (h : ¬ (a < N ∧ b < N)) : opM φ A B N a b = false := by
  unfold opM stM; rw [if_neg (by omega)]
theorem partR_get {X : Gr} {so : Ev → Ev → Bool} {n : Nat} {R : Rw} (hN : nOf X = X.evs.length) (hR : Wf n R) (hn : n = X.evs.length) {a b : Nat} (ha : a < X.evs.length) (hb' : b < X.evs.length) : hb (partR so X n R) a b = (hb R a b && so (X.evs.getD a ev0) (X.evs.getD b ev0)) := by
  have h40 := nOf_le X
  unfold partR
  rw [hN] at h40 ⊢
  rw [hb_newM h40 _ ha hb', Bool.eq_iff_iff, anyM_mem, List.mem_filter, Bool.and_eq_true]
  have hok : okP so X ((a : Int), (b : Int)) = so (X.evs.getD a ev0) (X.evs.getD b ev0) := by
    unfold okP
    have h1 : ((a : Nat) : Int) < X.evs.length := by omega
    have h2 : ((b : Nat) : Int) < X.evs.length := by omega
    simp only [h1, h2, decide_true, Bool.true_and, Int.toNat_natCast]
  rw [hok]
  constructor
  · rintro ⟨hp, hs⟩
    obtain ⟨x, y, he, hh⟩ := mem_pairsR.1 hp
    injection he with e1 e2
    have e1 : a = x := by omega
    have e2 : b = y := by omega
    subst e1 e2
    rw [hN_wf hR] at hh
    exact ⟨hh, hs⟩
  · rintro ⟨hh, hs⟩
    exact ⟨mem_pairsR.2 ⟨a, b, rfl, by rw [hN_wf hR]; exact hh⟩, hs⟩
section
variable {X : Gr} (h : GraphOk X)
include h
theorem wf_E (stp) : Wf X.evs.length (relE stp X) := by unfold relE; rw [h.nOf]; exact wf_new h.n40 _
theorem eco_get {a b : Nat} (ha : a < X.evs.length) (hb' : b < X.evs.length) : plM X.evs.length (comM X.evs.length (anyM (rfL X X.rf.length)) (anyM (coX X X.co.length))) X.evs.length a b = hb (ecoR X) a b := by
  have w : Wf X.evs.length (orR (orR (relE rfS X) (relE (coS X.co) X)) (relE (frS X.co) X)) := wf_or (wf_or (wf_E h _) (wf_E h _)) (wf_E h _)
  have e : Eqv (comM X.evs.length (anyM (rfL X X.rf.length)) (anyM (coX X X.co.length))) (orR (orR (relE rfS X) (relE (coS X.co) X)) (relE (frS X.co) X)) := by
    intro a b
    by_cases hab : a < X.evs.length ∧ b < X.evs.length
    · unfold comM
      rw [opM_get _ _ _ _ _ _ hab.1 hab.2, opM_get _ _ _ _ _ _ hab.1 hab.2, hb_or, hb_or, rf_get h hab.1 hab.2, co_get h hab.1 hab.2, fr_get h hab.1 hab.2]
    · unfold comM
      rw [opM_out _ _ _ _ _ _ hab]
      symm
      rw [Bool.eq_false_iff]
      intro hh
      exact hab (w a b hh)
  unfold ecoR
  rw [h.nOf]
  exact plM_get e w _ (Nat.le_refl _) a b ha hb'
theorem th_ge (i : Nat) (hi : i < X.evs.length) : (((i : Int) < X.locs) → thI X i = 0) ∧ (¬ ((i : Int) < X.locs) → 1 ≤ thI X i) := by
  obtain ⟨h1, h2⟩ := h.ev i hi
  exact ⟨fun hl => (h1 hl).1, fun hl => (h2 hl).1⟩
theorem po_get {a b : Nat} (ha : a < X.evs.length) (hb' : b < X.evs.length) : mpoM X a b = hb (poR X) a b := by
  unfold poR; rw [h.nOf, hb_newM h.n40 _ ha hb', Bool.eq_iff_iff, anyM_mem]
  have ga := th_ge h a ha
  have gb := th_ge h b hb'
  have hmem : ((a : Int), (b : Int)) ∈ poK X X.evs.length ↔ poB a b (X.evs.getD a ev0) (X.evs.getD b ev0) = true := by
    simp only [poK, poRow, List.mem_flatMap, List.mem_map, List.mem_filter, List.mem_range]
    constructor
    · rintro ⟨x, hx, y, ⟨hy, hp⟩, he⟩
      injection he with e1 e2
      have e1 : x = a := by omega
      have e2 : y = b := by omega
      subst e1 e2
      exact hp
    · intro hp; exact ⟨a, ha, b, ⟨hb', hp⟩, rfl⟩
  rw [hmem]
  unfold mpoM stU poV poB
  unfold thI at *
  generalize (X.evs.getD a ev0).th = ta at *
  generalize (X.evs.getD b ev0).th = tb at *
  by_cases hab : a < b
  · rw [if_pos (.inl ⟨ha, hab, hb'⟩)]
    simp only [Bool.or_eq_true, Bool.and_eq_true, beq_iff_eq, decide_eq_true_eq, bne_iff_ne, ne_eq]
    by_cases l1 : (a : Int) < X.locs <;> by_cases l2 : (b : Int) < X.locs
    · have := ga.1 l1; have := gb.1 l2; omega
    · have := ga.1 l1; have := gb.2 l2; omega
    · omega
    · have := ga.2 l1; have := gb.2 l2; omega
  · rw [if_neg (by omega)]
    simp only [Bool.or_eq_true, Bool.and_eq_true, beq_iff_eq, decide_eq_true_eq, bne_iff_ne, ne_eq]
    by_cases l1 : (a : Int) < X.locs <;> by_cases l2 : (b : Int) < X.locs
    · have := ga.1 l1; have := gb.1 l2; simp; omega
    · omega
    · have := ga.2 l1; have := gb.1 l2; simp; omega
    · have := ga.2 l1; have := gb.2 l2; simp; omega
theorem wf_po : Wf X.evs.length (poR X) := by unfold poR; rw [h.nOf]; exact wf_new h.n40 _
theorem loc_get {a b : Nat} (ha : a < X.evs.length) (hb' : b < X.evs.length) : locM X a b = hb (partR locP X X.evs.length (poR X)) a b := by
  rw [partR_get h.nOf (wf_po h) rfl ha hb', ← po_get h ha hb']
  unfold locM stK
  rw [if_pos (.inl ⟨ha, hb'⟩)]
  congr 1
  unfold locV locP
  rw [Bool.and_assoc]
theorem inner_get (l : List (Int × Int)) {a b : Nat} (ha : a < X.evs.length) (hb' : b < X.evs.length) : prtM X true (newM X.evs.length l) a b = hb (partR inner X X.evs.length (newR X.evs.length l)) a b := by
  rw [partR_get h.nOf (wf_new h.n40 _) rfl ha hb']
  unfold prtM
  rw [opM_get _ _ _ _ _ _ ha hb', eqv_new h.n40 l a b]
  unfold thV thI inner
  cases ((X.evs.getD a ev0).th == (X.evs.getD b ev0).th) <;> rfl
theorem outer_get (l : List (Int × Int)) {a b : Nat} (ha : a < X.evs.length) (hb' : b < X.evs.length) : prtM X false (newM X.evs.length l) a b = hb (partR outer X X.evs.length (newR X.evs.length l)) a b := by
  rw [partR_get h.nOf (wf_new h.n40 _) rfl ha hb']
  unfold prtM
  rw [opM_get _ _ _ _ _ _ ha hb', eqv_new h.n40 l a b]
  unfold thV thI outer bne
  cases ((X.evs.getD a ev0).th == (X.evs.getD b ev0).th) <;> rfl
end
theorem pairsR_len40 {n : Nat} (hn : n ≤ 40) (R : Rw) : (pairsR n R).length < 9000000000000000000 := by
  have := pairsR_len hn R; omega
set_option maxRecDepth 100000 in
theorem sp_sameG {f : Nat} (hf : F f = some A_xlaw09_same) (h55 : F 55 = some A_xref01_SamePairs) (h56 : F 56 = some A_xref01_R_Pairs) (pr : Pk_rel F) {n : Nat} (hn : n ≤ 40) {M : Mx} {R : Rw} (hM : ∀ a b, a < n → b < n → M a b = hb R a b) : pureS F f [.ptr (relC n R), .ptr (matC n M)] = some (.b true) := by
  refine pure_of hf ?_
  have h1 := sp_mpairs h56 hn M R (same_of hM)
  have h2 := sp_samePairs h55 (pairsR n R) (pairsR_len40 hn R) .non .non
  simp (disch := omega) only [A_xlaw09_same, wp, Nat.reduceAdd, Nat.reduceMul, Nat.reduceSub, gl, rl, ml, sp_len pr, sp_pairs pr hn, h1, h2]
theorem sp_same9 (h68 : F 68 = some A_xlaw09_same) (h55 : F 55 = some A_xref01_SamePairs) (h56 : F 56 = some A_xref01_R_Pairs) (pr : Pk_rel F) {n : Nat} (hn : n ≤ 40) {M : Mx} {R : Rw} (hM : ∀ a b, a < n → b < n → M a b = hb R a b) : pureS F 68 [.ptr (relC n R), .ptr (matC n M)] = some (.b true) := sp_sameG h68 h55 h56 pr hn hM
set_option maxRecDepth 100000 in
set_option maxHeartbeats 4000000 in
theorem sp_all9 (h46 : F 46 = some A_xlaw09_all) (h68 : F 68 = some A_xlaw09_same) (pe : Pk_eco F) (h60 : F 60 = some A_graph_Po) (h81 : F 81 = some A_graph_Of) (pr : Pk_rel F) (px : Pk_xref01 F) (h83 : F 83 = some A_xref09_Com) (h72 : F 72 = some A_xref09_Eco) (p9 : Pk_xref09 F) (h84 : F 84 = some A_xref06_Po) {X : Gr} (hX : FewG X) (h : GraphOk X) (l : List (Int × Int)) (t : Tok) (hl : l.length ≤ 1000) : pureS F 46 [.agg (grC X), .sl (pairsC l) l.length t] = some (.b true) := by
  refine pure_of h46 ?_
  have n40 := h.n40
  have hN := h.nOf
  have hf := hX.few
  have a1 := sp_Rf pe h81 pr hf
  have a2 := sp_Co pe h81 pr hf
  have a3 := sp_Fr pe h81 pr hf
  have a4 := sp_Eco pe h81 pr hf
  have a5 := sp_Loc pe h60 h81 pr (X := X) (by omega)
  have a6 := fun R => sp_Inner pe h81 pr (X := X) (n := X.evs.length) n40 R
  have a7 := fun R => sp_Outer pe h81 pr (X := X) (n := X.evs.length) n40 R
  rw [hN] at a1 a2 a3 a4 a5 a6 a7
  have hrl := h.rfl
  have b1 := sp_mRf p9.xref09_Rf px.xref01_New (X := X) n40 (by omega) (fun i hi => by have := (h.rfr i (by omega)).2; omega)
  have b2 := sp_mCo p9.xref09_Co px.xref01_New (X := X) n40 (by have := hX.co; omega) (fun j hj => by
    have hm : X.co.getD j [] ∈ X.co := by
      rw [List.getD_eq_getElem?_getD, List.getElem?_eq_getElem hj]; exact List.getElem_mem hj
    have := hX.cos _ hm
    exact ⟨by omega, fun i hi => by have := h.cor j hj i hi; omega⟩)
  have b3 := sp_mFr p9.xref09_Fr px.xref01_New px.xref01_R_Then px.xref01_R_Back n40 b1 b2
  have b0 := sp_mCom h83 px.xref01_New px.xref01_R_Or n40 b1 b2 b3
  have b4 := sp_mEco h72 px.xref01_New px.xref01_R_Plus n40 b0
  have b5 := sp_mLoc p9.xref09_Loc h84 px.xref01_New (X := X) n40
  have b6 := fun A => sp_mInner p9.xref09_Inner p9.xref09_part px.xref01_New (X := X) n40 A
  have b7 := fun A => sp_mOuter p9.xref09_Outer p9.xref09_part px.xref01_New (X := X) n40 A
  have c1 := sp_same9 h68 px.xref01_SamePairs px.xref01_R_Pairs pr n40 (fun a b ha hb' => rf_get h ha hb')
  have c2 := sp_same9 h68 px.xref01_SamePairs px.xref01_R_Pairs pr n40 (fun a b ha hb' => co_get h ha hb')
  have c3 := sp_same9 h68 px.xref01_SamePairs px.xref01_R_Pairs pr n40 (fun a b ha hb' => fr_get h ha hb')
  have c4 := sp_same9 h68 px.xref01_SamePairs px.xref01_R_Pairs pr n40 (fun a b ha hb' => eco_get h ha hb')
  have c5 := sp_same9 h68 px.xref01_SamePairs px.xref01_R_Pairs pr n40 (fun a b ha hb' => loc_get h ha hb')
  have c6 := sp_same9 h68 px.xref01_SamePairs px.xref01_R_Pairs pr n40 (fun a b ha hb' => inner_get h l ha hb')
  have c7 := sp_same9 h68 px.xref01_SamePairs px.xref01_R_Pairs pr n40 (fun a b ha hb' => outer_get h l ha hb')
  have d1 := sp_new pr (X.evs.length : Int) l .non (by omega)
  have d2 := sp_newM px.xref01_New (X.evs.length : Int) l .non (by omega)
  rw [show clamp (X.evs.length : Int) = X.evs.length by unfold clamp; omega] at d1 d2
  simp (disch := omega) only [A_xlaw09_all, wp, Nat.reduceAdd, Nat.reduceMul, Nat.reduceSub, gl, a1, a2, a3, a4, a5, a6, a7, b1, b2, b3, b4, b5, b6, b7, c1, c2, c3, c4, c5, c6, c7, d1, d2]
end Go.Ab
end
section
/- Matrices that stand for relations: each operation keeps that. -/
set_option linter.unusedVariables false
set_option linter.unusedSimpArgs false
namespace Go.Ab
variable {F : Funs}
def EqN (n : Nat) (A : Mx) (R : Rw) : Prop := Wf n R ∧ ∀ a b, a < n → b < n → A a b = hb R a b
theorem EqN.same {n A R} (h : EqN n A R) : Same n A R := same_of h.2
theorem EqN.new {n : Nat} (hn : n ≤ 40) (l : List (Int × Int)) : EqN n (newM n l) (newR n l) := ⟨wf_new hn _, fun a b _ _ => eqv_new hn l a b⟩
section
variable {n : Nat} {A B : Mx} {R S : Rw}
theorem EqN.or (h : EqN n A R) (k : EqN n B S) : EqN n (opM (fun x y => x || y) A B n) (orR R S) :=
  ⟨wf_or h.1 k.1, fun a b ha hb' => by rw [opM_get _ _ _ _ _ _ ha hb', h.2 a b ha hb', k.2 a b ha hb', hb_or]⟩
theorem EqN.and (h : EqN n A R) (k : EqN n B S) : EqN n (opM (fun x y => x && y) A B n) (andR R S) :=
  ⟨wf_and h.1, fun a b ha hb' => by rw [opM_get _ _ _ _ _ _ ha hb', h.2 a b ha hb', k.2 a b ha hb', hb_and]⟩
theorem EqN.less (h : EqN n A R) (k : EqN n B S) : EqN n (opM (fun x y => x && !y) A B n) (lessR R S) :=
  ⟨wf_less h.1, fun a b ha hb' => by rw [opM_get _ _ _ _ _ _ ha hb', h.2 a b ha hb', k.2 a b ha hb', hb_less]⟩
theorem EqN.then (h : EqN n A R) (k : EqN n B S) : EqN n (thM A B n n) (thenR n R S) :=
  ⟨wf_then h.1 k.1, fun a b ha hb' => by
    rw [thM_get _ _ _ _ _ _ hb', Bool.eq_iff_iff, hb_then h.1, decide_eq_true ha, Bool.true_and, List.any_eq_true]
    constructor
    · rintro ⟨c, hc, hh⟩
      rw [h.2 a c ha (List.mem_range.1 hc), k.2 c b (List.mem_range.1 hc) hb', Bool.and_eq_true] at hh
      exact ⟨c, hh.1, hh.2⟩
    · rintro ⟨c, h1, h2⟩
      have hc := (h.1 a c h1).2
      exact ⟨c, List.mem_range.2 hc, by rw [h.2 a c ha hc, k.2 c b hc hb', h1, h2]; rfl⟩⟩
theorem plM_getN {N : Nat} {A : Mx} {R : Rw} (h : EqN N A R) : ∀ k, k ≤ N → ∀ i j, i < N → j < N → plM N A k i j = hb (plusK N k R) i j
  | 0, _, i, j, hi, hj => h.2 i j hi hj
  | k + 1, hk, i, j, hi, hj => by
    have ih := plM_getN h k (by omega)
    rw [plM_succ, p3M_get _ _ _ _ _ _ hj (by omega), plusK_succ, hb_rowP (by omega) _ (wf_plusK h.1 k (by omega)) N (Nat.le_refl _), ih i j hi hj, ih i k hi (by omega), ih k j (by omega) hj]
theorem EqN.plus (h : EqN n A R) : EqN n (plM n A n) (plusR n R) := ⟨wf_plus h.1, fun a b ha hb' => plM_getN h n (Nat.le_refl _) a b ha hb'⟩
theorem EqN.maybe (hn : n ≤ 40) (h : EqN n A R) : EqN n (mbM A n) (maybeK n R) :=
  ⟨wf_maybe hn h.1, fun a b ha hb' => by
    rw [hb_maybeK _ _ _ _ (by omega), ← h.2 a b ha hb']
    unfold mbM
    congr 1
    rw [Bool.eq_iff_iff]
    simp only [Bool.and_eq_true, decide_eq_true_eq]
    omega⟩
theorem EqN.back (hn : n ≤ 40) (h : EqN n A R) : EqN n (bkM A n n 0) (backR n R) :=
  ⟨wf_back hn, fun a b ha hb' => by
    rw [mback_get _ _ _ _ ha hb', hb_back hn, hN_wf h.1, h.2 b a hb' ha]⟩
end
theorem none_pairs {n : Nat} (hn : n ≤ 40) {R : Rw} (hw : Wf n R) : (((pairsR n R).length : Int) == 0) = noneR R := by
  cases hc : noneR R with
  | true => exact pairs_none ((noneR_iff hn hw).1 hc)
  | false =>
    rw [Bool.eq_false_iff, ne_eq, beq_iff_eq]
    intro h0
    have h0 : (pairsR n R).length = 0 := by omega
    have hnil := List.eq_nil_of_length_eq_zero h0
    have : noneR R = true := (noneR_iff hn hw).2 fun a b => by
      cases hab : hb R a b with
      | false => rfl
      | true =>
        have : ((a : Int), (b : Int)) ∈ pairsR n R := mem_pairsR.2 ⟨a, b, rfl, by rw [hN_wf hw]; exact hab⟩
        rw [hnil] at this; cases this
    rw [hc] at this; cases this
set_option maxRecDepth 100000 in
theorem sp_minN (h : F 36 = some A_xref01_R_In) (h31 : F 31 = some A_xref01_R_Less) (h27 : F 27 = some A_xref01_New) (h56 : F 56 = some A_xref01_R_Pairs) {n : Nat} (hn : n ≤ 40) {A B : Mx} {R S : Rw} (hA : EqN n A R) (hB : EqN n B S) : pureS F 36 [.ptr (matC n A), .ptr (matC n B)] = some (.b (noneR (lessR R S))) := by
  refine pure_of h ?_
  have hs := (hA.less hB).same
  have e := none_pairs hn (hA.less hB).1
  simp (disch := omega) only [A_xref01_R_In, wp, Nat.reduceAdd, Nat.reduceMul, Nat.reduceSub, sp_mless h31 h27 hn hn, Nat.max_self, sp_mpairs h56 hn _ _ hs, e]
end Go.Ab
end
section
/- Sets of events; what the base relations of a graph that may be are asx matrices. -/
set_option linter.unusedVariables false
set_option linter.unusedSimpArgs false
namespace Go.Ab
variable {F : Funs}
def setL (X : Gr) (p : Ev → Bool) (k : Nat) : List (Int × Int) := (List.range k).flatMap fun (i : Nat) => if p (X.evs.getD i ev0) then [((i : Int), (i : Int))] else []
theorem setL_succ (X p k) : setL X p (k + 1) = setL X p k ++ (if p (X.evs.getD k ev0) then [((k : Int), (k : Int))] else []) := by simp [setL, List.range_succ]
theorem setL_len (X p k) : (setL X p k).length ≤ k := by
  induction k with
  | zero => simp [setL]
  | succ k ih => rw [setL_succ, List.length_append]; split <;> simp <;> omega
theorem mem_setL {X : Gr} {p : Ev → Bool} {k a b : Nat} : ((a : Int), (b : Int)) ∈ setL X p k ↔ a = b ∧ a < k ∧ p (X.evs.getD a ev0) = true := by
  unfold setL
  simp only [List.mem_flatMap, List.mem_range]
  constructor
  · rintro ⟨i, hi, h⟩
    by_cases hp : p (X.evs.getD i ev0) = true
    · rw [if_pos hp, List.mem_singleton, Prod.mk.injEq] at h
      have e1 : a = i := by omega
      have e2 : b = i := by omega
      subst e1 e2
      exact ⟨rfl, hi, hp⟩
    · rw [if_neg hp] at h; cases h
  · rintro ⟨rfl, hk, hp⟩
    exact ⟨a, hk, by rw [if_pos hp]; exact List.mem_singleton.2 rfl⟩
def setR (X : Gr) (p : Ev → Bool) : Rw := newR (nOf X) (setL X p X.evs.length)
def kindK (X : Gr) (q : Ev → Bool) (k : Nat) : Mx := fun a b => decide (a = b) && (decide (a < k) && q (X.evs.getD a ev0))
theorem kindK_succ (X q k) : upd2 (kindK X q k) k k (q (X.evs.getD k ev0)) = kindK X q (k + 1) := by
  funext i j
  unfold upd2 kindK
  by_cases h : i = k ∧ j = k
  · obtain ⟨rfl, rfl⟩ := h
    rw [if_pos ⟨rfl, rfl⟩]; simp
  · rw [if_neg h]
    by_cases hij : i = j
    · have : decide (i < k) = decide (i < k + 1) := by rw [decide_eq_decide]; omega
      rw [this]
    · rw [decide_eq_false hij]; rfl
theorem kindK_0 (X q) : kindK X q 0 = fun _ _ => false := by funext i j; simp [kindK]
section
variable {X : Gr} (h : GraphOk X)
include h
theorem EqN.set {p q : Ev → Bool} (hq : ∀ i, i < X.evs.length → p (X.evs.getD i ev0) = q (X.evs.getD i ev0)) : EqN X.evs.length (kindK X q X.evs.length) (setR X p) := by
  unfold setR
  rw [h.nOf]
  refine ⟨wf_new h.n40 _, fun a b ha hb' => ?_⟩
  rw [hb_newM h.n40 _ ha hb', Bool.eq_iff_iff, anyM_mem, mem_setL]
  unfold kindK
  simp only [Bool.and_eq_true, decide_eq_true_eq, hq a ha]
theorem ev_kinds (i : Nat) (hi : i < X.evs.length) : ((X.evs.getD i ev0).kd = 1 ∧ ((X.evs.getD i ev0).md = 0 ∨ (X.evs.getD i ev0).md = 1)) ∨ ((X.evs.getD i ev0).kd = 2 ∧ ((X.evs.getD i ev0).md = 0 ∨ (X.evs.getD i ev0).md = 2)) ∨ ((X.evs.getD i ev0).kd = 3 ∧ 1 ≤ (X.evs.getD i ev0).md ∧ (X.evs.getD i ev0).md ≤ 4) := by
  obtain ⟨h1, h2⟩ := h.ev i hi
  by_cases hl : (i : Int) < X.locs
  · obtain ⟨_, h3, h4, _⟩ := h1 hl
    exact .inr (.inl ⟨h3, .inl h4⟩)
  · obtain ⟨_, _, _, h3⟩ := h2 hl
    rcases h3 with ⟨h4, _, _, h5⟩ | ⟨h4, _, _, h5⟩ | ⟨h4, h5, h6, _⟩
    · exact .inl ⟨h4, h5⟩
    · exact .inr (.inl ⟨h4, h5⟩)
    · exact .inr (.inr ⟨h4, h5, h6⟩)
theorem eq_rf : EqN X.evs.length (anyM (rfL X X.rf.length)) (relE rfS X) := ⟨wf_E h _, fun _ _ ha hb' => rf_get h ha hb'⟩
theorem eq_co : EqN X.evs.length (anyM (coX X X.co.length)) (relE (coS X.co) X) := ⟨wf_E h _, fun _ _ ha hb' => co_get h ha hb'⟩
theorem eq_fr : EqN X.evs.length (frM X.evs.length (anyM (rfL X X.rf.length)) (anyM (coX X X.co.length))) (relE (frS X.co) X) := ⟨wf_E h _, fun _ _ ha hb' => fr_get h ha hb'⟩
theorem eq_po : EqN X.evs.length (mpoM X) (poR X) := ⟨wf_po h, fun _ _ ha hb' => po_get h ha hb'⟩
theorem eq_eco : EqN X.evs.length (plM X.evs.length (comM X.evs.length (anyM (rfL X X.rf.length)) (anyM (coX X X.co.length))) X.evs.length) (ecoR X) :=
  ⟨by unfold ecoR; rw [h.nOf]; exact wf_plus (wf_or (wf_or (wf_E h _) (wf_E h _)) (wf_E h _)), fun _ _ ha hb' => eco_get h ha hb'⟩
theorem wf_part (so : Ev → Ev → Bool) (n : Nat) (R : Rw) : Wf X.evs.length (partR so X n R) := by unfold partR; rw [h.nOf]; exact wf_new h.n40 _
theorem eq_loc : EqN X.evs.length (locM X) (partR locP X X.evs.length (poR X)) := ⟨wf_part h _ _ _, fun _ _ ha hb' => loc_get h ha hb'⟩
theorem eq_inner {A : Mx} {R : Rw} (k : EqN X.evs.length A R) : EqN X.evs.length (prtM X true A) (partR inner X X.evs.length R) :=
  ⟨wf_part h _ _ _, fun a b ha hb' => by
    rw [partR_get h.nOf k.1 rfl ha hb']
    unfold prtM
    rw [opM_get _ _ _ _ _ _ ha hb', k.2 a b ha hb']
    unfold thV thI inner
    cases ((X.evs.getD a ev0).th == (X.evs.getD b ev0).th) <;> rfl⟩
theorem eq_outer {A : Mx} {R : Rw} (k : EqN X.evs.length A R) : EqN X.evs.length (prtM X false A) (partR outer X X.evs.length R) :=
  ⟨wf_part h _ _ _, fun a b ha hb' => by
    rw [partR_get h.nOf k.1 rfl ha hb']
    unfold prtM
    rw [opM_get _ _ _ _ _ _ ha hb', k.2 a b ha hb']
    unfold thV thI outer bne
    cases ((X.evs.getD a ev0).th == (X.evs.getD b ev0).th) <;> rfl⟩
end
end Go.Ab
end
section
/- Resolved functions of package sync, written by a program (res.py). -/
namespace Go.Ab
def A_sync_Hb : AFun := { res := [.t 2], body := (.seq (.reg false [{ dst := some 1, op := .box (.t 0) },
  { dst := some 2, op := .mv (.c (.nilp)) }])
 (.seq (.reg true [{ dst := some 3, op := .ld (some 8) (.t 1), pre := [] },
  { dst := some 4, op := .call .pure (.c (.fn 60 [] [])) [.t 3], pre := [] },
  { dst := some 5, op := .ld (some 8) (.t 1), pre := [] },
  { dst := some 6, op := .call .pure (.c (.fn 176 [] [])) [.t 5], pre := [] },
  { dst := some 7, op := .call .pure (.c (.fn 24 [] [])) [.t 4, .t 6], pre := [] },
  { dst := some 8, op := .call .pure (.c (.fn 12 [] [])) [.t 7], pre := [] },
  { dst := some 2, op := .mv (.t 8) }])
 .ret)) }
def A_sync_Release : AFun := { res := [.t 2], body := (.seq (.reg false [{ dst := some 1, op := .box (.t 0) },
  { dst := some 2, op := .mv (.c (.nilp)) }])
 (.seq (.reg true [{ dst := some 4, op := .ld (some 8) (.t 1), pre := [] },
  { dst := some 5, op := .bsl true 3 ([.i .i64 0, .i .i64 0, .i .i64 0]) [(0, 1, .c (.i .i64 2)), (1, 1, .c (.i .i64 3)), (2, 1, .c (.i .i64 4))], pre := [] },
  { dst := some 6, op := .call .pure (.c (.fn 178 [] [])) [.t 4, .c (.i .i64 3), .t 5], pre := [] },
  { dst := some 7, op := .ld (some 8) (.t 1), pre := [] },
  { dst := some 8, op := .call .pure (.c (.fn 60 [] [])) [.t 7], pre := [] },
  { dst := some 9, op := .bsl true 1 ([.nilp]) [(0, 1, .t 8)], pre := [] },
  { dst := some 10, op := .call .pure (.c (.fn 177 [] [])) [.t 6, .t 9], pre := [] },
  { dst := some 3, op := .mv (.t 10) }])
 (.seq (.reg true [{ dst := some 11, op := .ld (some 8) (.t 1), pre := [] },
  { dst := some 12, op := .bsl true 1 ([.i .i64 0]) [(0, 1, .c (.i .i64 2))], pre := [] },
  { dst := some 13, op := .call .pure (.c (.fn 178 [] [])) [.t 11, .c (.i .i64 2), .t 12], pre := [] },
  { dst := some 14, op := .mv (.t 3) },
  { dst := some 15, op := .call .pure (.c (.fn 24 [] [])) [.t 13, .t 14], pre := [] },
  { dst := some 16, op := .ld (some 8) (.t 1), pre := [] },
  { dst := some 17, op := .call .pure (.c (.fn 179 [] [])) [.t 16], pre := [] },
  { dst := some 18, op := .bsl true 1 ([.nilp]) [(0, 1, .t 17)], pre := [] },
  { dst := some 19, op := .call .pure (.c (.fn 177 [] [])) [.t 15, .t 18], pre := [] },
  { dst := some 2, op := .mv (.t 19) }])
 .ret))) }
def A_sync_Sw : AFun := { res := [.t 2], body := (.seq (.reg false [{ dst := some 1, op := .box (.t 0) },
  { dst := some 2, op := .mv (.c (.nilp)) }])
 (.seq (.reg false [{ dst := some 6, op := .ld (some 8) (.t 1) },
  { dst := some 7, op := .call .pure (.c (.fn 48 [] [])) [.t 6] },
  { dst := some 3, op := .mv (.t 7) }])
 (.seq (.reg true [{ dst := some 8, op := .ld (some 8) (.t 1), pre := [] },
  { dst := some 9, op := .mv (.t 3) },
  { dst := some 10, op := .call .pure (.c (.fn 39 [] [])) [.t 8, .t 9], pre := [] },
  { dst := some 11, op := .ld (some 8) (.t 1), pre := [] },
  { dst := some 12, op := .call .pure (.c (.fn 41 [] [])) [.t 11], pre := [] },
  { dst := some 13, op := .call .pure (.c (.fn 16 [] [])) [.t 12], pre := [] },
  { dst := some 14, op := .ld (some 8) (.t 1), pre := [] },
  { dst := some 15, op := .mv (.t 3) },
  { dst := some 16, op := .call .pure (.c (.fn 40 [] [])) [.t 14, .t 15], pre := [] },
  { dst := some 17, op := .bsl true 1 ([.nilp]) [(0, 1, .t 16)], pre := [] },
  { dst := some 18, op := .call .pure (.c (.fn 177 [] [])) [.t 13, .t 17], pre := [] },
  { dst := some 19, op := .call .pure (.c (.fn 24 [] [])) [.t 10, .t 18], pre := [] },
  { dst := some 4, op := .mv (.t 19) }])
 (.seq (.reg true [{ dst := some 20, op := .ld (some 8) (.t 1), pre := [] },
  { dst := some 21, op := .call .pure (.c (.fn 60 [] [])) [.t 20], pre := [] },
  { dst := some 22, op := .ld (some 8) (.t 1), pre := [] },
  { dst := some 23, op := .bsl true 3 ([.i .i64 0, .i .i64 0, .i .i64 0]) [(0, 1, .c (.i .i64 1)), (1, 1, .c (.i .i64 3)), (2, 1, .c (.i .i64 4))], pre := [] },
  { dst := some 24, op := .call .pure (.c (.fn 178 [] [])) [.t 22, .c (.i .i64 3), .t 23], pre := [] },
  { dst := some 25, op := .bsl true 1 ([.nilp]) [(0, 1, .t 24)], pre := [] },
  { dst := some 26, op := .call .pure (.c (.fn 177 [] [])) [.t 21, .t 25], pre := [] },
  { dst := some 5, op := .mv (.t 26) }])
 (.seq (.reg true [{ dst := some 27, op := .ld (some 8) (.t 1), pre := [] },
  { dst := some 28, op := .call .pure (.c (.fn 149 [] [])) [.t 27], pre := [] },
  { dst := some 29, op := .mv (.t 4) },
  { dst := some 30, op := .ld (some 8) (.t 1), pre := [] },
  { dst := some 31, op := .bsl true 1 ([.i .i64 0]) [(0, 1, .c (.i .i64 1))], pre := [] },
  { dst := some 32, op := .call .pure (.c (.fn 178 [] [])) [.t 30, .c (.i .i64 1), .t 31], pre := [] },
  { dst := some 33, op := .mv (.t 5) },
  { dst := some 34, op := .call .pure (.c (.fn 24 [] [])) [.t 32, .t 33], pre := [] },
  { dst := some 35, op := .bsl true 2 ([.nilp, .nilp]) [(0, 1, .t 29), (1, 1, .t 34)], pre := [] },
  { dst := some 36, op := .call .pure (.c (.fn 177 [] [])) [.t 28, .t 35], pre := [] },
  { dst := some 2, op := .mv (.t 36) }])
 .ret))))) }
def A_sync_then : AFun := { res := [.t 4], body := (.seq (.reg false [{ dst := some 4, op := .mv (.c (.nilp)) }])
 (.seq (.seq (.reg false [{ dst := some 7, op := .mv (.t 1) },
  { dst := some 8, op := .len (.t 7) },
  { dst := some 9, op := .mv (.c (.i .i64 0)) }])
 (.blk 0 (.loop (.seq (.reg false [{ dst := some 10, op := .bin .lss (.t 9) (.t 8) }])
 (.seq (.cond (.t 10) .skip
 (.ext 0))
 (.seq (.blk 1 (.seq (.reg false [{ dst := some 11, op := .ia 1 (.t 7) (.t 9) },
  { dst := some 12, op := .ld none (.t 11) },
  { dst := some 6, op := .mv (.t 12) }])
 (.reg false [{ dst := some 13, op := .mv (.t 0) },
  { dst := some 14, op := .mv (.t 6) },
  { dst := some 15, op := .call .pure (.c (.fn 23 [] [])) [.t 13, .t 14] },
  { dst := some 0, op := .mv (.t 15) }])))
 (.reg false [{ dst := some 16, op := .bin .add (.t 9) (.c (.i .i64 1)) },
  { dst := some 9, op := .mv (.t 16) }])))))))
 (.seq (.reg false [{ dst := some 17, op := .mv (.t 0) },
  { dst := some 4, op := .mv (.t 17) }])
 .ret))) }
def A_sync_set : AFun := { res := [.t 6], body := (.seq (.reg false [{ dst := some 3, op := .boxI (.t 0) },
  { dst := some 4, op := .boxI (.t 1) },
  { dst := some 5, op := .boxI (.t 2) },
  { dst := some 6, op := .mv (.c (.nilp)) }])
 (.seq (.reg false [{ dst := some 7, op := .ld (some 8) (.t 3) },
  { dst := some 8, op := .mkfn 229 [] [.t 5, .t 4] },
  { dst := some 9, op := .call .pure (.c (.fn 166 [] [])) [.t 7, .t 8] },
  { dst := some 6, op := .mv (.t 9) }])
 .ret)) }
def A_sync_Rs : AFun := { res := [.t 2], body := (.seq (.reg false [{ dst := some 1, op := .box (.t 0) },
  { dst := some 2, op := .mv (.c (.nilp)) }])
 (.seq (.reg true [{ dst := some 6, op := .ld (some 8) (.t 1), pre := [] },
  { dst := some 7, op := .call .pure (.c (.fn 178 [] [])) [.t 6, .c (.i .i64 2), .c (.sl [] 0 .rig)], pre := [] },
  { dst := some 8, op := .ld (some 8) (.t 1), pre := [] },
  { dst := some 9, op := .call .pure (.c (.fn 41 [] [])) [.t 8], pre := [] },
  { dst := some 3, op := .mv (.t 7) },
  { dst := some 4, op := .mv (.t 9) }])
 (.seq (.reg true [{ dst := some 10, op := .mv (.t 4) },
  { dst := some 11, op := .call .pure (.c (.fn 16 [] [])) [.t 10], pre := [] },
  { dst := some 12, op := .ld (some 8) (.t 1), pre := [] },
  { dst := some 13, op := .call .pure (.c (.fn 48 [] [])) [.t 12], pre := [] },
  { dst := some 14, op := .ld (some 8) (.t 1), pre := [] },
  { dst := some 15, op := .fa 4 (.t 1) },
  { dst := some 16, op := .ld none (.t 15), pre := [] },
  { dst := some 17, op := .call .pure (.c (.fn 81 [] [])) [.t 14, .t 16], pre := [] },
  { dst := some 18, op := .bsl true 2 ([.nilp, .nilp]) [(0, 1, .t 13), (1, 1, .t 17)], pre := [] },
  { dst := some 19, op := .call .pure (.c (.fn 177 [] [])) [.t 11, .t 18], pre := [] },
  { dst := some 5, op := .mv (.t 19) }])
 (.seq (.reg false [{ dst := some 20, op := .mv (.t 3) },
  { dst := some 21, op := .mv (.t 4) },
  { dst := some 22, op := .mv (.t 3) },
  { dst := some 23, op := .bsl true 2 ([.nilp, .nilp]) [(0, 1, .t 21), (1, 1, .t 22)] },
  { dst := some 24, op := .call .pure (.c (.fn 177 [] [])) [.t 20, .t 23] },
  { dst := some 25, op := .mv (.t 3) },
  { dst := some 26, op := .mv (.t 5) },
  { dst := some 27, op := .call .pure (.c (.fn 12 [] [])) [.t 26] },
  { dst := some 28, op := .call .pure (.c (.fn 16 [] [])) [.t 27] },
  { dst := some 29, op := .bsl true 1 ([.nilp]) [(0, 1, .t 28)] },
  { dst := some 30, op := .call .pure (.c (.fn 177 [] [])) [.t 25, .t 29] },
  { dst := some 31, op := .call .pure (.c (.fn 24 [] [])) [.t 24, .t 30] },
  { dst := some 2, op := .mv (.t 31) }])
 .ret)))) }
def A_sync_set_1 : AFun := { res := [.t 4], body := (.seq (.reg false [{ dst := some 3, op := .box (.t 0) },
  { dst := some 4, op := .mv (.c (.b false)) }])
 (.seq (.reg false [{ dst := some 8, op := .ld none (.t 1) },
  { dst := some 9, op := .len (.t 8) },
  { dst := some 10, op := .bin .eql (.t 9) (.c (.i .i64 0)) },
  { dst := some 5, op := .mv (.t 10) }])
 (.seq (.seq (.reg false [{ dst := some 11, op := .ld none (.t 1) },
  { dst := some 12, op := .len (.t 11) },
  { dst := some 13, op := .mv (.c (.i .i64 0)) }])
 (.blk 0 (.loop (.seq (.reg false [{ dst := some 14, op := .bin .lss (.t 13) (.t 12) }])
 (.seq (.cond (.t 14) .skip
 (.ext 0))
 (.seq (.blk 1 (.seq (.reg false [{ dst := some 15, op := .ia 1 (.t 11) (.t 13) },
  { dst := some 16, op := .ld none (.t 15) },
  { dst := some 7, op := .mv (.t 16) }])
 (.reg false [{ dst := some 17, op := .mv (.t 5) },
  { dst := some 18, op := .mv (.t 17) },
  { dst := some 19, op := .fa 2 (.t 3), grd := some (18, false) },
  { dst := some 20, op := .ld none (.t 19), grd := some (18, false) },
  { dst := some 21, op := .mv (.t 7), grd := some (18, false) },
  { dst := some 22, op := .bin .eql (.t 20) (.t 21), grd := some (18, false) },
  { dst := some 23, op := .pick (.t 18) (.c (.b true)) (.t 22) },
  { dst := some 5, op := .mv (.t 23) }])))
 (.reg false [{ dst := some 24, op := .bin .add (.t 13) (.c (.i .i64 1)) },
  { dst := some 13, op := .mv (.t 24) }])))))))
 (.seq (.reg false [{ dst := some 25, op := .fa 1 (.t 3) },
  { dst := some 26, op := .ld none (.t 25) },
  { dst := some 27, op := .ld none (.t 2) },
  { dst := some 28, op := .bin .eql (.t 26) (.t 27) },
  { dst := some 29, op := .mv (.t 28) },
  { dst := some 30, op := .mv (.t 5), grd := some (29, true) },
  { dst := some 31, op := .pick (.t 29) (.t 30) (.c (.b false)) },
  { dst := some 4, op := .mv (.t 31) }])
 .ret)))) }
structure Pk_sync (F : Funs) : Prop where
  sync_Hb : F 148 = some A_sync_Hb
  sync_Release : F 149 = some A_sync_Release
  sync_Sw : F 176 = some A_sync_Sw
  sync_then : F 177 = some A_sync_then
  sync_set : F 178 = some A_sync_set
  sync_Rs : F 179 = some A_sync_Rs
  sync_set_1 : F 229 = some A_sync_set_1
end Go.Ab
end
section
/- graph.Set; package sync. -/
set_option linter.unusedVariables false
set_option linter.unusedSimpArgs false
namespace Go.Ab
variable {F : Funs}
theorem o_boxI {c : CS} {al : Nat → Bool} {lo id : Nat} {e : Env} {g : G} (x) : opE c al lo id (.boxI x) e g = vBoxI (x.ev e) g := rfl
noncomputable def bxiD (x : Bool) (cs : Option (List AV)) (g : G) : Option (AV × G) := if x then vMapL .ptr g cs else none
theorem vBoxI_S (v g) : vBoxI v g = bxiD ((cellsOf v).all one) (frzL (fun _ => none) depth (cellsOf v)) g := rfl
theorem bxiD_ok (cs g) : bxiD true cs g = vMapL .ptr g cs := rfl
theorem frzL_gr (hp) (X : Gr) : frzL hp depth (grC X) = some (grC X) := by
  show frzL hp (8 + 1) _ = _
  simp only [grC, frzL, frz]
set_option maxRecDepth 100000 in
set_option maxHeartbeats 4000000 in
theorem sp_setE (h166 : F 166 = some A_graph_Set) (h81 : F 81 = some A_graph_Of) (pr : Pk_rel F) {X : Gr} (hX : X.evs.length ≤ 1000) {fid : Nat} {caps : List AV} {p : Ev → Bool} (hp : ∀ e, pureS F fid (.agg (evC e) :: caps) = some (.b (p e)))
    (hc : ∀ hp, frzL hp depth caps = some caps) (hv : ∀ hp, caps.flatMap (vis hp depth) = []) : pureS F 166 [.agg (grC X), .fn fid [] caps] = some (.ptr (relC (nOf X) (setR X p))) := by
  refine pure_of h166 ?_
  simp (disch := omega) only [A_graph_Set, wp, Nat.reduceAdd, Nat.reduceMul, Nat.reduceSub, gl]
  refine W_loop (fun q e g => ∃ k t, q = X.evs.length - k ∧ k ≤ X.evs.length ∧ e 2 = .mp 0 0 ∧ e 5 = .sl (pairsC (setL X p k)) (setL X p k).length t ∧ e 6 = .mp 5 0 ∧ e 12 = .sl (evsC X.evs) X.evs.length .non ∧ e 13 = .i .i64 X.evs.length ∧ e 14 = .i .i64 k ∧ Live g 2 t ∧ g.hp 0 = some (.cells (grC X) false) ∧ g.hp 5 = some (.cells [.fn fid [] caps] false) ∧ 5 < g.nx) X.evs.length ?_ ?_
  · refine ⟨0, .rig, rfl, Nat.zero_le _, ?_⟩
    simp (disch := omega) only [wp, Nat.reduceAdd, Nat.reduceMul, Nat.reduceSub]
    exact ⟨by rfl, rfl, .inl rfl, by first | omega | (dsimp only; omega)⟩
  · rintro q e g ⟨k, t, rfl, hk, e2, e5, e6, e12, e13, e14, L, hg, hf, hnx⟩
    by_cases hk' : k < X.evs.length
    · have hk1 : (k : Int) < X.evs.length := by omega
      have hwk := succ_wrap (k := k) (by omega)
      have hev := ev_part hk'
      have hs := setL_succ X p k
      have hl := setL_len X p k
      generalize X.evs.getD k ev0 = ev at hev hs
      have hpe := hp ev
      generalize setL X p k = B at e5 hs hl
      cases hb : p ev with
      | true =>
        rw [hb] at hpe
        rw [hb, if_pos rfl] at hs
        rcases L with rfl | ⟨τ, rfl, hτ, hlt⟩
        · simp (disch := omega) only [wp, Nat.reduceAdd, Nat.reduceMul, Nat.reduceSub, gl, e2, e5, e6, e12, e13, e14, hg, hf, hk1, hev, hc, hv, hpe, pairsC_len, hwk]
          refine ⟨X.evs.length - (k + 1), by omega, k + 1, ?_⟩
          rw [hs, pairsC_app, pairsC_one, List.length_append]
          exact ⟨_, rfl, by omega, rfl, rfl, .inr ⟨_, rfl, upd_same _ _ _, by first | omega | (dsimp only; omega)⟩, by first | omega | (dsimp only; omega)⟩
        · have n0 : τ ≠ 0 := fun h => by rw [h, hg] at hτ; cases hτ
          have n5 : τ ≠ 5 := fun h => by rw [h, hf] at hτ; cases hτ
          simp (disch := omega) only [wp, Nat.reduceAdd, Nat.reduceMul, Nat.reduceSub, gl, e2, e5, e6, e12, e13, e14, hg, hf, hk1, hev, hc, hv, hpe, pairsC_len, hwk, hτ]
          refine ⟨X.evs.length - (k + 1), by omega, k + 1, ?_⟩
          rw [hs, pairsC_app, pairsC_one, List.length_append]
          exact ⟨_, rfl, by omega, rfl, rfl, .inr ⟨_, rfl, upd_same _ _ _, by first | omega | (dsimp only; omega)⟩, by first | omega | (dsimp only; omega)⟩
      | false =>
        rw [hb] at hpe
        rw [hb, if_neg (by simp), List.append_nil] at hs
        simp (disch := omega) only [wp, Nat.reduceAdd, Nat.reduceMul, Nat.reduceSub, gl, e2, e5, e6, e12, e13, e14, hg, hf, hk1, hev, hc, hv, hpe, hwk]
        refine ⟨X.evs.length - (k + 1), by omega, k + 1, t, rfl, by omega, by rw [hs], rfl, ?_, by first | omega | (dsimp only; omega)⟩
        rcases L with rfl | ⟨τ, rfl, hτ, hlt⟩
        · exact .inl rfl
        · exact .inr ⟨τ, rfl, by simp (disch := omega) only [upd_ne]; exact hτ, by first | omega | (dsimp only; omega)⟩
    · obtain rfl : k = X.evs.length := by omega
      have hk1 : ¬ ((X.evs.length : Int) < X.evs.length) := by omega
      have hl := setL_len X p X.evs.length
      have hof := sp_of h81 pr X (setL X p X.evs.length) .non (by omega)
      simp (disch := omega) only [wp, Nat.reduceAdd, Nat.reduceMul, Nat.reduceSub, gl, e2, e5, e6, e12, e13, e14, hg, hf, hk1, hof]
      rfl
def setP (k : Int) (ms : List Int) (e : Ev) : Bool := e.kd == k && (decide (ms = []) || ms.any fun m => e.md == m)
set_option maxRecDepth 100000 in
set_option maxHeartbeats 4000000 in
theorem sp_set1 (h229 : F 229 = some A_sync_set_1) (k : Int) (ms : List Int) (hm : ms.length ≤ 1000) (ev : Ev) : pureS F 229 [.agg (evC ev), .ptr [.sl (intsC ms) ms.length .non], .ptr [.i .i64 k]] = some (.b (setP k ms ev)) := by
  refine pure_of h229 ?_
  have h0 : ((ms.length : Int) == 0) = decide (ms = []) := by
    cases ms with
    | nil => rfl
    | cons a l => simp; omega
  simp (disch := omega) only [A_sync_set_1, wp, Nat.reduceAdd, Nat.reduceMul, Nat.reduceSub, gl, h0]
  refine W_loop (fun q e g => ∃ j, q = ms.length - j ∧ j ≤ ms.length ∧ e 2 = .ptr [.i .i64 k] ∧ e 3 = .mp 0 0 ∧ e 5 = .b (decide (ms = []) || (ms.take j).any fun m => ev.md == m) ∧ e 11 = .sl (intsC ms) ms.length .non ∧ e 12 = .i .i64 ms.length ∧ e 13 = .i .i64 j ∧ g.hp 0 = some (.cells (evC ev) false) ∧ 0 < g.nx) ms.length ?_ ?_
  · refine ⟨0, rfl, Nat.zero_le _, ?_⟩
    simp (disch := omega) only [wp, Nat.reduceAdd, Nat.reduceMul, Nat.reduceSub]
    exact ⟨by simp, rfl, by first | omega | (dsimp only; omega)⟩
  · rintro q e g ⟨j, rfl, hj, e2, e3, e5, e11, e12, e13, hg, hnx⟩
    by_cases hj' : j < ms.length
    · have hj1 : (j : Int) < ms.length := by omega
      have hwj := succ_wrap (k := j) (by omega)
      have hip := ints_part hj'
      have hs : (ms.take (j + 1)).any (fun m => ev.md == m) = ((ms.take j).any (fun m => ev.md == m) || ev.md == ms.getD j 0) := by
        rw [List.take_add_one, List.getElem?_eq_getElem hj', List.any_append, List.getD_eq_getElem?_getD, List.getElem?_eq_getElem hj']
        simp
      generalize ms.getD j 0 = m at hip hs
      cases hb : (decide (ms = []) || (ms.take j).any fun m => ev.md == m) with
      | true =>
        rw [hb] at e5
        simp (disch := omega) only [wp, Nat.reduceAdd, Nat.reduceMul, Nat.reduceSub, gl, e2, e3, e5, e11, e12, e13, hg, hj1, hip, hwj]
        exact ⟨ms.length - (j + 1), by omega, j + 1, rfl, by omega, by rw [hs, ← Bool.or_assoc, hb]; rfl, rfl, by first | omega | (dsimp only; omega)⟩
      | false =>
        rw [hb] at e5
        simp (disch := omega) only [wp, Nat.reduceAdd, Nat.reduceMul, Nat.reduceSub, gl, e2, e3, e5, e11, e12, e13, hg, hj1, hip, hwj]
        exact ⟨ms.length - (j + 1), by omega, j + 1, rfl, by omega, by rw [hs, ← Bool.or_assoc, hb]; rfl, rfl, by first | omega | (dsimp only; omega)⟩
    · obtain rfl : j = ms.length := by omega
      have hj1 : ¬ ((ms.length : Int) < ms.length) := by omega
      rw [List.take_length] at e5
      unfold setP
      cases hk : (ev.kd == k) with
      | true => simp (disch := omega) only [wp, Nat.reduceAdd, Nat.reduceMul, Nat.reduceSub, gl, e2, e3, e5, e11, e12, e13, hg, hj1, hk]
      | false => simp (disch := omega) only [wp, Nat.reduceAdd, Nat.reduceMul, Nat.reduceSub, gl, e2, e3, e5, e11, e12, e13, hg, hj1, hk]
set_option maxRecDepth 100000 in
theorem sp_setS (h178 : F 178 = some A_sync_set) (h229 : F 229 = some A_sync_set_1) (h166 : F 166 = some A_graph_Set) (h81 : F 81 = some A_graph_Of) (pr : Pk_rel F) {X : Gr} (hX : X.evs.length ≤ 1000) (k : Int) (ms : List Int) (hm : ms.length ≤ 1000) (t : Tok) : pureS F 178 [.agg (grC X), .i .i64 k, .sl (intsC ms) ms.length t] = some (.ptr (relC (nOf X) (setR X (setP k ms)))) := by
  refine pure_of h178 ?_
  have hc : ∀ hp, frzL hp depth [.ptr [.sl (intsC ms) ms.length .non], .ptr [.i .i64 k]] = some [.ptr [.sl (intsC ms) ms.length .non], .ptr [.i .i64 k]] := fun hp => by simp only [frzL_cons, frzL_nil, frz_d_ptr, consO_ok]
  have hv : ∀ hp, [AV.ptr [.sl (intsC ms) ms.length .non], .ptr [.i .i64 k]].flatMap (vis hp depth) = [] := fun hp => by simp only [List.flatMap_cons, List.flatMap_nil, vis_ptr, List.append_nil]
  have hset := sp_setE h166 h81 pr hX (fid := 229) (p := setP k ms) (fun e => sp_set1 h229 k ms hm e) hc hv
  have hfn : ∀ hp, frz hp depth (.fn 229 [] [.ptr [.sl (intsC ms) ms.length .non], .ptr [.i .i64 k]]) = some (.fn 229 [] [.ptr [.sl (intsC ms) ms.length .non], .ptr [.i .i64 k]]) := fun hp => by
    show frz hp (8 + 1) _ = _
    simp only [frz, frzL]
  have hvn : ∀ hp, vis hp depth (.fn 229 [] [.ptr [.sl (intsC ms) ms.length .non], .ptr [.i .i64 k]]) = [] := fun hp => by
    show vis hp (8 + 1) _ = _
    simp only [vis, List.flatMap_cons, List.flatMap_nil, List.append_nil]
  simp (disch := omega) only [A_sync_set, wp, Nat.reduceAdd, Nat.reduceMul, Nat.reduceSub, gl, o_boxI, vBoxI_S, bxiD_ok, frzL_gr, vMapL_some, hfn, hvn, hset]
def relsC (n : Nat) (l : List Rw) : List AV := l.map fun R => .ptr (relC n R)
def thenL (n : Nat) (R : Rw) (l : List Rw) : Rw := l.foldl (fun R S => thenR n R S) R
theorem rels_part {n : Nat} {l : List Rw} {k : Nat} (h : k < l.length) : part ((relsC n l).drop (k * 1)) 0 none = some (.ptr (relC n (l.getD k fun _ => 0))) := by
  simp only [part, relsC, List.getElem?_drop, Nat.mul_one, Nat.add_zero, List.getElem?_map, List.getElem?_eq_getElem h, Option.map_some, List.getD_eq_getElem?_getD, Option.getD_some]
set_option maxRecDepth 100000 in
set_option maxHeartbeats 4000000 in
theorem sp_thenS (h177 : F 177 = some A_sync_then) (pr : Pk_rel F) {n : Nat} (hn : n ≤ 40) (R : Rw) (l : List Rw) (hl : l.length ≤ 1000) (t : Tok) : pureS F 177 [.ptr (relC n R), .sl (relsC n l) l.length t] = some (.ptr (relC n (thenL n R l))) := by
  refine pure_of h177 ?_
  simp (disch := omega) only [A_sync_then, wp, Nat.reduceAdd, Nat.reduceMul, Nat.reduceSub, gl]
  refine W_loop (fun q e g => ∃ k, q = l.length - k ∧ k ≤ l.length ∧ e 0 = .ptr (relC n (thenL n R (l.take k))) ∧ e 7 = .sl (relsC n l) l.length t ∧ e 8 = .i .i64 l.length ∧ e 9 = .i .i64 k) l.length ?_ ?_
  · refine ⟨0, rfl, Nat.zero_le _, ?_⟩
    simp (disch := omega) only [wp, Nat.reduceAdd, Nat.reduceMul, Nat.reduceSub]
    exact ⟨by rfl, rfl⟩
  · rintro q e g ⟨k, rfl, hk, e0, e7, e8, e9⟩
    by_cases hk' : k < l.length
    · have hk1 : (k : Int) < l.length := by omega
      have hwk := succ_wrap (k := k) (by omega)
      have hp := rels_part (n := n) hk'
      have hs : thenL n R (l.take (k + 1)) = thenR n (thenL n R (l.take k)) (l.getD k fun _ => 0) := by
        unfold thenL
        rw [List.take_add_one, List.foldl_append, List.getElem?_eq_getElem hk', List.getD_eq_getElem?_getD, List.getElem?_eq_getElem hk']
        rfl
      generalize thenL n R (l.take k) = A at e0 hs
      generalize (l.getD k fun _ => 0) = B at hp hs
      simp (disch := omega) only [wp, Nat.reduceAdd, Nat.reduceMul, Nat.reduceSub, gl, e0, e7, e8, e9, hk1, hp, sp_then pr hn hn, Nat.max_self, hwk]
      exact ⟨l.length - (k + 1), by omega, k + 1, rfl, by omega, by rw [hs], rfl⟩
    · obtain rfl : k = l.length := by omega
      have hk1 : ¬ ((l.length : Int) < l.length) := by omega
      rw [List.take_length] at e0
      simp (disch := omega) only [wp, Nat.reduceAdd, Nat.reduceMul, Nat.reduceSub, gl, e0, e7, e8, e9, hk1]
end Go.Ab
end
section
/- Package sync: Rs, Release, Sw, Hb. -/
set_option linter.unusedVariables false
set_option linter.unusedSimpArgs false
namespace Go.Ab
variable {F : Funs}
theorem sp_then1 (h177 : F 177 = some A_sync_then) (pr : Pk_rel F) {n : Nat} (hn : n ≤ 40) (R S : Rw) : pureS F 177 [.ptr (relC n R), .sl [.ptr (relC n S)] 1 .non] = some (.ptr (relC n (thenR n R S))) := sp_thenS h177 pr hn R [S] (by simp) .non
theorem sp_then2 (h177 : F 177 = some A_sync_then) (pr : Pk_rel F) {n : Nat} (hn : n ≤ 40) (R S T : Rw) : pureS F 177 [.ptr (relC n R), .sl [.ptr (relC n S), .ptr (relC n T)] 2 .non] = some (.ptr (relC n (thenR n (thenR n R S) T))) := sp_thenS h177 pr hn R [S, T] (by simp) .non
section
variable (X : Gr)
def locR : Rw := partR locP X (nOf X) (poR X)
def rfR : Rw := relE rfS X
def RsP : Rw := orR (thenR (nOf X) (thenR (nOf X) (setR X (setP 2 [])) (locR X)) (setR X (setP 2 []))) (thenR (nOf X) (setR X (setP 2 [])) (maybeK (nOf X) (plusR (nOf X) (thenR (nOf X) (thenR (nOf X) (maybeK (nOf X) (locR X)) (rfR X)) (newR (nOf X) X.rmw)))))
def ReleaseP : Rw := thenR (nOf X) (orR (setR X (setP 2 [2])) (thenR (nOf X) (setR X (setP 3 [2, 3, 4])) (poR X))) (RsP X)
def SwP : Rw := thenR (nOf X) (thenR (nOf X) (ReleaseP X) (orR (partR inner X (nOf X) (rfR X)) (thenR (nOf X) (maybeK (nOf X) (locR X)) (partR outer X (nOf X) (rfR X))))) (orR (setR X (setP 1 [1])) (thenR (nOf X) (poR X) (setR X (setP 3 [1, 3, 4]))))
def HbP : Rw := plusR (nOf X) (orR (poR X) (SwP X))
end
structure SyncF (F : Funs) : Prop where
  ps : Pk_sync F
  pe : Pk_eco F
  pr : Pk_rel F
  po : F 60 = some A_graph_Po
  gof : F 81 = some A_graph_Of
  set : F 166 = some A_graph_Set
section
variable (S : SyncF F) {X : Gr} (hX : Few X)
include S hX
theorem sp_setX (k : Int) (ms : List Int) (hm : ms.length ≤ 1000) (t : Tok) : pureS F 178 [.agg (grC X), .i .i64 k, .sl (intsC ms) ms.length t] = some (.ptr (relC (nOf X) (setR X (setP k ms)))) :=
  sp_setS S.ps.sync_set S.ps.sync_set_1 S.set S.gof S.pr (by have := hX.1; omega) k ms hm t
theorem sp_set0 (k : Int) : pureS F 178 [.agg (grC X), .i .i64 k, .sl [] 0 .non] = some (.ptr (relC (nOf X) (setR X (setP k [])))) := sp_setX S hX k [] (by simp) .non
theorem sp_setA (k a : Int) : pureS F 178 [.agg (grC X), .i .i64 k, .sl [.i .i64 a] 1 .non] = some (.ptr (relC (nOf X) (setR X (setP k [a])))) := sp_setX S hX k [a] (by simp) .non
theorem sp_setB (k a b c : Int) : pureS F 178 [.agg (grC X), .i .i64 k, .sl [.i .i64 a, .i .i64 b, .i .i64 c] 3 .non] = some (.ptr (relC (nOf X) (setR X (setP k [a, b, c])))) := sp_setX S hX k [a, b, c] (by simp) .non
theorem sp_locX : pureS F 41 [.agg (grC X)] = some (.ptr (relC (nOf X) (locR X))) := sp_Loc S.pe S.po S.gof S.pr (by have := hX.1; omega)
theorem sp_poX : pureS F 60 [.agg (grC X)] = some (.ptr (relC (nOf X) (poR X))) := sp_Po S.po S.gof S.pr (by have := hX.1; omega)
theorem sp_rfX : pureS F 48 [.agg (grC X)] = some (.ptr (relC (nOf X) (rfR X))) := sp_Rf S.pe S.gof S.pr hX
omit hX in
theorem sp_ofX (l : List (Int × Int)) (hl : l.length ≤ 1000) (t : Tok) : pureS F 81 [.agg (grC X), .sl (pairsC l) l.length t] = some (.ptr (relC (nOf X) (newR (nOf X) l))) := sp_of S.gof S.pr X l t (by omega)
set_option maxRecDepth 100000 in
theorem sp_Rs (hr : X.rmw.length ≤ 1000) : pureS F 179 [.agg (grC X)] = some (.ptr (relC (nOf X) (RsP X))) := by
  refine pure_of S.ps.sync_Rs ?_
  have hn := nOf_le X
  simp (disch := omega) only [A_sync_Rs, wp, Nat.reduceAdd, Nat.reduceMul, Nat.reduceSub, gl, sp_set0 S hX, sp_locX S hX, sp_rfX S hX, sp_ofX S, sp_maybe S.pr hn, sp_then2 S.ps.sync_then S.pr hn, sp_then1 S.ps.sync_then S.pr hn, sp_plus S.pr hn, sp_or S.pr hn hn, Nat.max_self]
  rfl
set_option maxRecDepth 100000 in
theorem sp_Release (hr : X.rmw.length ≤ 1000) : pureS F 149 [.agg (grC X)] = some (.ptr (relC (nOf X) (ReleaseP X))) := by
  refine pure_of S.ps.sync_Release ?_
  have hn := nOf_le X
  simp (disch := omega) only [A_sync_Release, wp, Nat.reduceAdd, Nat.reduceMul, Nat.reduceSub, gl, sp_setA S hX, sp_setB S hX, sp_poX S hX, sp_Rs S hX hr, sp_then2 S.ps.sync_then S.pr hn, sp_then1 S.ps.sync_then S.pr hn, sp_or S.pr hn hn, Nat.max_self]
  rfl
set_option maxRecDepth 100000 in
theorem sp_Sw (hr : X.rmw.length ≤ 1000) : pureS F 176 [.agg (grC X)] = some (.ptr (relC (nOf X) (SwP X))) := by
  refine pure_of S.ps.sync_Sw ?_
  have hn := nOf_le X
  simp (disch := omega) only [A_sync_Sw, wp, Nat.reduceAdd, Nat.reduceMul, Nat.reduceSub, gl, sp_setA S hX, sp_setB S hX, sp_poX S hX, sp_locX S hX, sp_rfX S hX, sp_Inner S.pe S.gof S.pr hn, sp_Outer S.pe S.gof S.pr hn, sp_Release S hX hr, sp_maybe S.pr hn, sp_then2 S.ps.sync_then S.pr hn, sp_then1 S.ps.sync_then S.pr hn, sp_or S.pr hn hn, Nat.max_self]
  rfl
set_option maxRecDepth 100000 in
theorem sp_Hb (hr : X.rmw.length ≤ 1000) : pureS F 148 [.agg (grC X)] = some (.ptr (relC (nOf X) (HbP X))) := by
  refine pure_of S.ps.sync_Hb ?_
  have hn := nOf_le X
  simp (disch := omega) only [A_sync_Hb, wp, Nat.reduceAdd, Nat.reduceMul, Nat.reduceSub, gl, sp_poX S hX, sp_Sw S hX hr, sp_or S.pr hn hn, sp_plus S.pr hn, Nat.max_self]
  rfl
end
end Go.Ab
end
section
/- Resolved functions of package xref10, written by a program (res.py). -/
namespace Go.Ab
def A_xref10_Rs : AFun := { res := [.t 2], body := (.seq (.reg false [{ dst := some 1, op := .box (.t 0) },
  { dst := some 2, op := .mv (.c (.nilp)) }])
 (.seq (.reg true [{ dst := some 6, op := .ld (some 8) (.t 1), pre := [] },
  { dst := some 7, op := .call .pure (.c (.fn 230 [] [])) [.t 6], pre := [] },
  { dst := some 8, op := .ld (some 8) (.t 1), pre := [] },
  { dst := some 9, op := .call .pure (.c (.fn 73 [] [])) [.t 8], pre := [] },
  { dst := some 3, op := .mv (.t 7) },
  { dst := some 4, op := .mv (.t 9) }])
 (.seq (.reg true [{ dst := some 10, op := .mv (.t 4) },
  { dst := some 11, op := .call .pure (.c (.fn 35 [] [])) [.t 10], pre := [] },
  { dst := some 12, op := .ld (some 8) (.t 1), pre := [] },
  { dst := some 13, op := .call .pure (.c (.fn 69 [] [])) [.t 12], pre := [] },
  { dst := some 14, op := .call .pure (.c (.fn 32 [] [])) [.t 11, .t 13], pre := [] },
  { dst := some 15, op := .ld (some 8) (.t 1), pre := [] },
  { dst := some 16, op := .fa 4 (.t 1) },
  { dst := some 17, op := .ld none (.t 16), pre := [] },
  { dst := some 18, op := .call .pure (.c (.fn 223 [] [])) [.t 15, .t 17], pre := [] },
  { dst := some 19, op := .call .pure (.c (.fn 32 [] [])) [.t 14, .t 18], pre := [] },
  { dst := some 5, op := .mv (.t 19) }])
 (.seq (.reg false [{ dst := some 20, op := .mv (.t 3) },
  { dst := some 21, op := .mv (.t 4) },
  { dst := some 22, op := .call .pure (.c (.fn 32 [] [])) [.t 20, .t 21] },
  { dst := some 23, op := .mv (.t 3) },
  { dst := some 24, op := .call .pure (.c (.fn 32 [] [])) [.t 22, .t 23] },
  { dst := some 25, op := .mv (.t 3) },
  { dst := some 26, op := .mv (.t 5) },
  { dst := some 27, op := .call .pure (.c (.fn 231 [] [])) [.t 26] },
  { dst := some 28, op := .call .pure (.c (.fn 32 [] [])) [.t 25, .t 27] },
  { dst := some 29, op := .call .pure (.c (.fn 29 [] [])) [.t 24, .t 28] },
  { dst := some 2, op := .mv (.t 29) }])
 .ret)))) }
def A_xref10_Release : AFun := { res := [.t 2], body := (.seq (.reg false [{ dst := some 1, op := .box (.t 0) },
  { dst := some 2, op := .mv (.c (.nilp)) }])
 (.seq (.reg true [{ dst := some 3, op := .ld (some 8) (.t 1), pre := [] },
  { dst := some 4, op := .call .pure (.c (.fn 232 [] [])) [.t 3], pre := [] },
  { dst := some 5, op := .ld (some 8) (.t 1), pre := [] },
  { dst := some 6, op := .call .pure (.c (.fn 233 [] [])) [.t 5], pre := [] },
  { dst := some 7, op := .ld (some 8) (.t 1), pre := [] },
  { dst := some 8, op := .call .pure (.c (.fn 84 [] [])) [.t 7], pre := [] },
  { dst := some 9, op := .call .pure (.c (.fn 32 [] [])) [.t 6, .t 8], pre := [] },
  { dst := some 10, op := .call .pure (.c (.fn 29 [] [])) [.t 4, .t 9], pre := [] },
  { dst := some 11, op := .ld (some 8) (.t 1), pre := [] },
  { dst := some 12, op := .call .pure (.c (.fn 182 [] [])) [.t 11], pre := [] },
  { dst := some 13, op := .call .pure (.c (.fn 32 [] [])) [.t 10, .t 12], pre := [] },
  { dst := some 2, op := .mv (.t 13) }])
 .ret)) }
def A_xref10_Sw : AFun := { res := [.t 2], body := (.seq (.reg false [{ dst := some 1, op := .box (.t 0) },
  { dst := some 2, op := .mv (.c (.nilp)) }])
 (.seq (.reg false [{ dst := some 5, op := .ld (some 8) (.t 1) },
  { dst := some 6, op := .call .pure (.c (.fn 69 [] [])) [.t 5] },
  { dst := some 3, op := .mv (.t 6) }])
 (.seq (.reg true [{ dst := some 7, op := .ld (some 8) (.t 1), pre := [] },
  { dst := some 8, op := .mv (.t 3) },
  { dst := some 9, op := .call .pure (.c (.fn 74 [] [])) [.t 7, .t 8], pre := [] },
  { dst := some 10, op := .ld (some 8) (.t 1), pre := [] },
  { dst := some 11, op := .call .pure (.c (.fn 73 [] [])) [.t 10], pre := [] },
  { dst := some 12, op := .call .pure (.c (.fn 35 [] [])) [.t 11], pre := [] },
  { dst := some 13, op := .ld (some 8) (.t 1), pre := [] },
  { dst := some 14, op := .mv (.t 3) },
  { dst := some 15, op := .call .pure (.c (.fn 75 [] [])) [.t 13, .t 14], pre := [] },
  { dst := some 16, op := .call .pure (.c (.fn 32 [] [])) [.t 12, .t 15], pre := [] },
  { dst := some 17, op := .call .pure (.c (.fn 29 [] [])) [.t 9, .t 16], pre := [] },
  { dst := some 4, op := .mv (.t 17) }])
 (.seq (.reg true [{ dst := some 18, op := .ld (some 8) (.t 1), pre := [] },
  { dst := some 19, op := .call .pure (.c (.fn 183 [] [])) [.t 18], pre := [] },
  { dst := some 20, op := .mv (.t 4) },
  { dst := some 21, op := .call .pure (.c (.fn 32 [] [])) [.t 19, .t 20], pre := [] },
  { dst := some 22, op := .ld (some 8) (.t 1), pre := [] },
  { dst := some 23, op := .call .pure (.c (.fn 234 [] [])) [.t 22], pre := [] },
  { dst := some 24, op := .ld (some 8) (.t 1), pre := [] },
  { dst := some 25, op := .call .pure (.c (.fn 84 [] [])) [.t 24], pre := [] },
  { dst := some 26, op := .ld (some 8) (.t 1), pre := [] },
  { dst := some 27, op := .call .pure (.c (.fn 235 [] [])) [.t 26], pre := [] },
  { dst := some 28, op := .call .pure (.c (.fn 32 [] [])) [.t 25, .t 27], pre := [] },
  { dst := some 29, op := .call .pure (.c (.fn 29 [] [])) [.t 23, .t 28], pre := [] },
  { dst := some 30, op := .call .pure (.c (.fn 32 [] [])) [.t 21, .t 29], pre := [] },
  { dst := some 2, op := .mv (.t 30) }])
 .ret)))) }
def A_xref10_Hb : AFun := { res := [.t 2], body := (.seq (.reg false [{ dst := some 1, op := .box (.t 0) },
  { dst := some 2, op := .mv (.c (.nilp)) }])
 (.seq (.reg true [{ dst := some 3, op := .ld (some 8) (.t 1), pre := [] },
  { dst := some 4, op := .call .pure (.c (.fn 84 [] [])) [.t 3], pre := [] },
  { dst := some 5, op := .ld (some 8) (.t 1), pre := [] },
  { dst := some 6, op := .call .pure (.c (.fn 184 [] [])) [.t 5], pre := [] },
  { dst := some 7, op := .call .pure (.c (.fn 29 [] [])) [.t 4, .t 6], pre := [] },
  { dst := some 8, op := .call .pure (.c (.fn 34 [] [])) [.t 7], pre := [] },
  { dst := some 2, op := .mv (.t 8) }])
 .ret)) }
def A_xref10_W : AFun := { res := [.t 2], body := (.seq (.reg false [{ dst := some 1, op := .box (.t 0) },
  { dst := some 2, op := .mv (.c (.nilp)) }])
 (.seq (.reg false [{ dst := some 3, op := .ld (some 8) (.t 1) },
  { dst := some 4, op := .call .pure (.c (.fn 225 [] [])) [.t 3, .c (.i .i64 2), .c (.i .i64 0), .c (.i .i64 2)] },
  { dst := some 2, op := .mv (.t 4) }])
 .ret)) }
def A_xref10_Wrel : AFun := { res := [.t 2], body := (.seq (.reg false [{ dst := some 1, op := .box (.t 0) },
  { dst := some 2, op := .mv (.c (.nilp)) }])
 (.seq (.reg false [{ dst := some 3, op := .ld (some 8) (.t 1) },
  { dst := some 4, op := .call .pure (.c (.fn 225 [] [])) [.t 3, .c (.i .i64 2), .c (.i .i64 2), .c (.i .i64 2)] },
  { dst := some 2, op := .mv (.t 4) }])
 .ret)) }
def A_xref10_Frel : AFun := { res := [.t 2], body := (.seq (.reg false [{ dst := some 1, op := .box (.t 0) },
  { dst := some 2, op := .mv (.c (.nilp)) }])
 (.seq (.reg false [{ dst := some 3, op := .ld (some 8) (.t 1) },
  { dst := some 4, op := .call .pure (.c (.fn 225 [] [])) [.t 3, .c (.i .i64 3), .c (.i .i64 2), .c (.i .i64 4)] },
  { dst := some 2, op := .mv (.t 4) }])
 .ret)) }
def A_xref10_Racq : AFun := { res := [.t 2], body := (.seq (.reg false [{ dst := some 1, op := .box (.t 0) },
  { dst := some 2, op := .mv (.c (.nilp)) }])
 (.seq (.reg false [{ dst := some 3, op := .ld (some 8) (.t 1) },
  { dst := some 4, op := .call .pure (.c (.fn 225 [] [])) [.t 3, .c (.i .i64 1), .c (.i .i64 1), .c (.i .i64 1)] },
  { dst := some 2, op := .mv (.t 4) }])
 .ret)) }
def A_xref10_Facq : AFun := { res := [.t 2], body := (.seq (.reg false [{ dst := some 1, op := .box (.t 0) },
  { dst := some 2, op := .mv (.c (.nilp)) }])
 (.seq (.reg true [{ dst := some 3, op := .ld (some 8) (.t 1), pre := [] },
  { dst := some 4, op := .call .pure (.c (.fn 225 [] [])) [.t 3, .c (.i .i64 3), .c (.i .i64 1), .c (.i .i64 1)], pre := [] },
  { dst := some 5, op := .ld (some 8) (.t 1), pre := [] },
  { dst := some 6, op := .call .pure (.c (.fn 225 [] [])) [.t 5, .c (.i .i64 3), .c (.i .i64 3), .c (.i .i64 4)], pre := [] },
  { dst := some 7, op := .call .pure (.c (.fn 29 [] [])) [.t 4, .t 6], pre := [] },
  { dst := some 2, op := .mv (.t 7) }])
 .ret)) }
structure Pk_xref10 (F : Funs) : Prop where
  xref10_Rs : F 182 = some A_xref10_Rs
  xref10_Release : F 183 = some A_xref10_Release
  xref10_Sw : F 184 = some A_xref10_Sw
  xref10_Hb : F 185 = some A_xref10_Hb
  xref10_W : F 230 = some A_xref10_W
  xref10_Wrel : F 232 = some A_xref10_Wrel
  xref10_Frel : F 233 = some A_xref10_Frel
  xref10_Racq : F 234 = some A_xref10_Racq
  xref10_Facq : F 235 = some A_xref10_Facq
end Go.Ab
end
section
/- ref06.Kind, Of; ref10: Rs, Release, Sw, Hb are the program's. -/
set_option linter.unusedVariables false
set_option linter.unusedSimpArgs false
namespace Go.Ab
variable {F : Funs}
def kindQ (k f t : Int) (e : Ev) : Bool := e.kd == k && (decide (f ≤ e.md) && decide (e.md ≤ t))
set_option maxRecDepth 100000 in
set_option maxHeartbeats 4000000 in
theorem sp_kind (h225 : F 225 = some A_xref06_Kind) (h27 : F 27 = some A_xref01_New) {X : Gr} (hn : X.evs.length ≤ 40) (k f t : Int) : pureS F 225 [.agg (grC X), .i .i64 k, .i .i64 f, .i .i64 t] = some (.ptr (matC X.evs.length (kindK X (kindQ k f t) X.evs.length))) := by
  refine pure_of_thaw h225 (matC_flat _ _) ?_
  have s6 : ∀ b1 b2 b3 b4 b5 b6 c1 c2 c3 c4 c5 c6 : AV, splice [b1, b2, b3, b4, b5, b6] 0 [c1, c2, c3, c4, c5, c6] = [c1, c2, c3, c4, c5, c6] := fun _ _ _ _ _ _ _ _ _ _ _ _ => rfl
  simp (disch := omega) only [A_xref06_Kind, wp, Nat.reduceAdd, Nat.reduceMul, Nat.reduceSub, gl, ml, thaw27 h27]
  refine W_loop (fun q e g => ∃ a : Nat, q = X.evs.length - a ∧ a ≤ X.evs.length ∧ e 1 = .i .i64 k ∧ e 2 = .i .i64 f ∧ e 3 = .i .i64 t ∧ e 4 = .mp 0 0 ∧ e 9 = .mp 5 0 ∧ e 10 = .i .i64 a ∧ g.hp 0 = some (.cells (grC X) false) ∧ g.hp 5 = some (.cells (matC X.evs.length (kindK X (kindQ k f t) a)) false) ∧ 5 < g.nx) X.evs.length ?_ ?_
  · refine ⟨0, rfl, Nat.zero_le _, ?_⟩
    simp (disch := omega) only [wp, Nat.reduceAdd, Nat.reduceMul, Nat.reduceSub]
    exact ⟨rfl, by rw [kindK_0], by first | omega | (dsimp only; omega)⟩
  · rintro q e g ⟨a, rfl, ha, e1, e2, e3, e4, e9, e10, hg, hm, hnx⟩
    by_cases ha' : a < X.evs.length
    · have ha1 : (a : Int) < X.evs.length := by omega
      have hwa := succ_wrap (k := a) (by omega)
      have hp := ev_part ha'
      have hs := kindK_succ X (kindQ k f t) a
      have hset := fun x => matC_set (n := X.evs.length) (M := kindK X (kindQ k f t) a) (a := a) (b := a) (x := x) (by omega)
      generalize X.evs.getD a ev0 = ev at hp hs
      obtain ⟨th, kd, md, lc, vl, ex⟩ := ev
      have hq : kindQ k f t ⟨th, kd, md, lc, vl, ex⟩ = (kd == k && (decide (f ≤ md) && decide (md ≤ t))) := rfl
      have fin : ∀ x, x = kindQ k f t ⟨th, kd, md, lc, vl, ex⟩ → X.evs.length - (a + 1) < X.evs.length - a ∧ upd2 (kindK X (kindQ k f t) a) a a x = kindK X (kindQ k f t) (a + 1) := fun x hx => ⟨by omega, by rw [hx, hs]⟩
      cases c1 : (kd == k)
      case false =>
        simp (disch := omega) only [wp, Nat.reduceAdd, Nat.reduceMul, Nat.reduceSub, gl, ml, e1, e2, e3, e4, e9, e10, hg, hm, ha1, hp, s6, c1, hset, hwa]
        obtain ⟨f1, f2⟩ := fin false (by rw [hq, c1]; rfl)
        exact ⟨_, f1, a + 1, rfl, by omega, rfl, by rw [f2], by first | omega | (dsimp only; omega)⟩
      by_cases c2 : f ≤ md
      case neg =>
        simp (disch := omega) only [wp, Nat.reduceAdd, Nat.reduceMul, Nat.reduceSub, gl, ml, e1, e2, e3, e4, e9, e10, hg, hm, ha1, hp, s6, c1, c2, hset, hwa]
        obtain ⟨f1, f2⟩ := fin false (by rw [hq, c1, decide_eq_false c2]; rfl)
        exact ⟨_, f1, a + 1, rfl, by omega, rfl, by rw [f2], by first | omega | (dsimp only; omega)⟩
      simp (disch := omega) only [wp, Nat.reduceAdd, Nat.reduceMul, Nat.reduceSub, gl, ml, e1, e2, e3, e4, e9, e10, hg, hm, ha1, hp, s6, c1, c2, hset, hwa]
      obtain ⟨f1, f2⟩ := fin (decide (md ≤ t)) (by rw [hq, c1, decide_eq_true c2]; simp)
      exact ⟨_, f1, a + 1, rfl, by omega, rfl, by rw [f2], by first | omega | (dsimp only; omega)⟩
    · obtain rfl : a = X.evs.length := by omega
      have ha1 : ¬ ((X.evs.length : Int) < X.evs.length) := by omega
      simp (disch := omega) only [wp, Nat.reduceAdd, Nat.reduceMul, Nat.reduceSub, gl, ml, e1, e2, e3, e4, e9, e10, hg, hm, ha1]
      exact ⟨_, rfl, hm⟩
/-- A function of a graph answers a matrix that stands for a relation. -/
def MIs (F : Funs) (f : Nat) (X : Gr) (R : Rw) : Prop := ∃ A, pureS F f [.agg (grC X)] = some (.ptr (matC X.evs.length A)) ∧ EqN X.evs.length A R
structure RefF (F : Funs) : Prop where
  px : Pk_xref01 F
  star : F 231 = some A_xref01_R_Star
  p9 : Pk_xref09 F
  p6 : Pk_xref06 F
  kind : F 225 = some A_xref06_Kind
  of : F 223 = some A_xref06_Of
section
variable (S : RefF F) {X : Gr} (h : GraphOk X)
include S h
theorem RefF.k (k f t : Int) : pureS F 225 [.agg (grC X), .i .i64 k, .i .i64 f, .i .i64 t] = some (.ptr (matC X.evs.length (kindK X (kindQ k f t) X.evs.length))) := sp_kind S.kind S.px.xref01_New h.n40 k f t
set_option maxRecDepth 100000 in
theorem RefF.ofL (l : List (Int × Int)) (hl : l.length ≤ 1000) (t : Tok) : pureS F 223 [.agg (grC X), .sl (pairsC l) l.length t] = some (.ptr (matC X.evs.length (newM X.evs.length l))) := by
  refine pure_of S.of ?_
  have n40 := h.n40
  have d2 := sp_newM S.px.xref01_New (X.evs.length : Int) l .non (by omega)
  rw [show clamp (X.evs.length : Int) = X.evs.length by unfold clamp; omega] at d2
  simp (disch := omega) only [A_xref06_Of, wp, Nat.reduceAdd, Nat.reduceMul, Nat.reduceSub, gl, d2]
set_option maxRecDepth 100000 in
theorem RefF.st (A : Mx) : pureS F 231 [.ptr (matC X.evs.length A)] = some (.ptr (matC X.evs.length (mbM (plM X.evs.length A X.evs.length) X.evs.length))) := by
  refine pure_of S.star ?_
  simp (disch := omega) only [A_xref01_R_Star, wp, Nat.reduceAdd, Nat.reduceMul, Nat.reduceSub, gl, sp_mplus S.px.xref01_R_Plus S.px.xref01_New h.n40, sp_mmaybe S.px.xref01_R_Maybe S.px.xref01_New h.n40]
theorem RefF.rf : pureS F 69 [.agg (grC X)] = some (.ptr (matC X.evs.length (anyM (rfL X X.rf.length)))) := by
  have n40 := h.n40
  have hrl := h.rfl
  exact sp_mRf S.p9.xref09_Rf S.px.xref01_New (X := X) n40 (by omega) (fun i hi => by have := (h.rfr i (by omega)).2; omega)
theorem RefF.po : pureS F 84 [.agg (grC X)] = some (.ptr (matC X.evs.length (mpoM X))) := sp_mPo S.p6.xref06_Po S.px.xref01_New h.n40
theorem RefF.loc : pureS F 73 [.agg (grC X)] = some (.ptr (matC X.evs.length (locM X))) := sp_mLoc S.p9.xref09_Loc S.p6.xref06_Po S.px.xref01_New h.n40
theorem RefF.inner (A : Mx) : pureS F 74 [.agg (grC X), .ptr (matC X.evs.length A)] = some (.ptr (matC X.evs.length (prtM X true A))) := sp_mInner S.p9.xref09_Inner S.p9.xref09_part S.px.xref01_New h.n40 A
theorem RefF.outer (A : Mx) : pureS F 75 [.agg (grC X), .ptr (matC X.evs.length A)] = some (.ptr (matC X.evs.length (prtM X false A))) := sp_mOuter S.p9.xref09_Outer S.p9.xref09_part S.px.xref01_New h.n40 A
theorem RefF.then (A B : Mx) : pureS F 32 [.ptr (matC X.evs.length A), .ptr (matC X.evs.length B)] = some (.ptr (matC X.evs.length (thM A B X.evs.length X.evs.length))) := by
  have := sp_mthen S.px.xref01_R_Then S.px.xref01_New h.n40 h.n40 A B
  rwa [Nat.max_self] at this
theorem RefF.or (A B : Mx) : pureS F 29 [.ptr (matC X.evs.length A), .ptr (matC X.evs.length B)] = some (.ptr (matC X.evs.length (opM (fun x y => x || y) A B X.evs.length))) := by
  have := sp_mor S.px.xref01_R_Or S.px.xref01_New h.n40 h.n40 A B
  rwa [Nat.max_self] at this
theorem RefF.and (A B : Mx) : pureS F 30 [.ptr (matC X.evs.length A), .ptr (matC X.evs.length B)] = some (.ptr (matC X.evs.length (opM (fun x y => x && y) A B X.evs.length))) := by
  have := sp_mand S.px.xref01_R_And S.px.xref01_New h.n40 h.n40 A B
  rwa [Nat.max_self] at this
theorem RefF.plus (A : Mx) : pureS F 34 [.ptr (matC X.evs.length A)] = some (.ptr (matC X.evs.length (plM X.evs.length A X.evs.length))) := sp_mplus S.px.xref01_R_Plus S.px.xref01_New h.n40 A
theorem RefF.maybe (A : Mx) : pureS F 35 [.ptr (matC X.evs.length A)] = some (.ptr (matC X.evs.length (mbM A X.evs.length))) := sp_mmaybe S.px.xref01_R_Maybe S.px.xref01_New h.n40 A
end
section
variable {X : Gr} (h : GraphOk X)
include h
theorem kq {k f t : Int} {p : Ev → Bool} (hq : ∀ e : Ev, (e.kd = 1 ∧ (e.md = 0 ∨ e.md = 1)) ∨ (e.kd = 2 ∧ (e.md = 0 ∨ e.md = 2)) ∨ (e.kd = 3 ∧ 1 ≤ e.md ∧ e.md ≤ 4) → p e = kindQ k f t e) : EqN X.evs.length (kindK X (kindQ k f t) X.evs.length) (setR X p) :=
  EqN.set h fun i hi => hq _ (ev_kinds h i hi)
end
theorem q_W (e : Ev) (h : (e.kd = 1 ∧ (e.md = 0 ∨ e.md = 1)) ∨ (e.kd = 2 ∧ (e.md = 0 ∨ e.md = 2)) ∨ (e.kd = 3 ∧ 1 ≤ e.md ∧ e.md ≤ 4)) : setP 2 [] e = kindQ 2 0 2 e := by
  unfold setP kindQ
  rcases h with ⟨h1, h2⟩ | ⟨h1, h2⟩ | ⟨h1, h2, h3⟩
  · rw [h1]; rfl
  · rcases h2 with h2 | h2 <;> rw [h1, h2] <;> rfl
  · rw [h1]; rfl
theorem q_md (k f : Int) (e : Ev) : setP k [f] e = kindQ k f f e := by
  unfold setP kindQ
  congr 1
  rw [Bool.eq_iff_iff]
  simp
  omega
theorem q_Frel (e : Ev) (h : (e.kd = 1 ∧ (e.md = 0 ∨ e.md = 1)) ∨ (e.kd = 2 ∧ (e.md = 0 ∨ e.md = 2)) ∨ (e.kd = 3 ∧ 1 ≤ e.md ∧ e.md ≤ 4)) : setP 3 [2, 3, 4] e = kindQ 3 2 4 e := by
  unfold setP kindQ
  congr 1
  rw [Bool.eq_iff_iff]
  simp
  omega
set_option maxRecDepth 100000 in
section
variable (S : RefF F) (p10 : Pk_xref10 F) {X : Gr} (h : GraphOk X)
include S p10 h
theorem mW : pureS F 230 [.agg (grC X)] = some (.ptr (matC X.evs.length (kindK X (kindQ 2 0 2) X.evs.length))) := by
  refine pure_of p10.xref10_W ?_
  simp (disch := omega) only [A_xref10_W, wp, Nat.reduceAdd, Nat.reduceMul, Nat.reduceSub, gl, S.k h]
theorem mWrel : pureS F 232 [.agg (grC X)] = some (.ptr (matC X.evs.length (kindK X (kindQ 2 2 2) X.evs.length))) := by
  refine pure_of p10.xref10_Wrel ?_
  simp (disch := omega) only [A_xref10_Wrel, wp, Nat.reduceAdd, Nat.reduceMul, Nat.reduceSub, gl, S.k h]
theorem mFrel : pureS F 233 [.agg (grC X)] = some (.ptr (matC X.evs.length (kindK X (kindQ 3 2 4) X.evs.length))) := by
  refine pure_of p10.xref10_Frel ?_
  simp (disch := omega) only [A_xref10_Frel, wp, Nat.reduceAdd, Nat.reduceMul, Nat.reduceSub, gl, S.k h]
theorem mRacq : pureS F 234 [.agg (grC X)] = some (.ptr (matC X.evs.length (kindK X (kindQ 1 1 1) X.evs.length))) := by
  refine pure_of p10.xref10_Racq ?_
  simp (disch := omega) only [A_xref10_Racq, wp, Nat.reduceAdd, Nat.reduceMul, Nat.reduceSub, gl, S.k h]
theorem mFacq : pureS F 235 [.agg (grC X)] = some (.ptr (matC X.evs.length (opM (fun x y => x || y) (kindK X (kindQ 3 1 1) X.evs.length) (kindK X (kindQ 3 3 4) X.evs.length) X.evs.length))) := by
  refine pure_of p10.xref10_Facq ?_
  simp (disch := omega) only [A_xref10_Facq, wp, Nat.reduceAdd, Nat.reduceMul, Nat.reduceSub, gl, S.k h, S.or h]
theorem mRs (hr : X.rmw.length ≤ 1000) : MIs F 182 X (RsP X) := by
  unfold RsP locR
  rw [h.nOf]
  have w := kq h q_W
  have l := eq_loc h
  have c := ((l.maybe h.n40).then (eq_rf h)).then (EqN.new h.n40 X.rmw)
  refine ⟨_, pure_of p10.xref10_Rs ?_, ((w.then l).then w).or (w.then (c.plus.maybe h.n40))⟩
  simp (disch := omega) only [A_xref10_Rs, wp, Nat.reduceAdd, Nat.reduceMul, Nat.reduceSub, gl, mW S p10 h, S.loc h, S.maybe h, S.rf h, S.then h, S.ofL h, S.st h, S.or h]
theorem mRelease (hr : X.rmw.length ≤ 1000) : MIs F 183 X (ReleaseP X) := by
  obtain ⟨A, hA, eA⟩ := mRs S p10 h hr
  unfold ReleaseP
  rw [h.nOf]
  have w := kq h fun e _ => q_md 2 2 e
  have f := kq h q_Frel
  refine ⟨_, pure_of p10.xref10_Release ?_, (w.or (f.then (eq_po h))).then eA⟩
  simp (disch := omega) only [A_xref10_Release, wp, Nat.reduceAdd, Nat.reduceMul, Nat.reduceSub, gl, mWrel S p10 h, mFrel S p10 h, S.po h, S.then h, S.or h, hA]
omit S p10 in
theorem eq_facq : EqN X.evs.length (opM (fun x y => x || y) (kindK X (kindQ 3 1 1) X.evs.length) (kindK X (kindQ 3 3 4) X.evs.length) X.evs.length) (setR X (setP 3 [1, 3, 4])) := by
  have e : EqN X.evs.length (kindK X (setP 3 [1, 3, 4]) X.evs.length) (setR X (setP 3 [1, 3, 4])) := EqN.set h fun i hi => rfl
  refine ⟨e.1, fun a b ha hb' => ?_⟩
  rw [opM_get _ _ _ _ _ _ ha hb', ← e.2 a b ha hb']
  unfold kindK
  have hk := ev_kinds h a ha
  generalize X.evs.getD a ev0 = ev at hk
  rw [Bool.eq_iff_iff]
  simp [setP, kindQ]
  omega
theorem mSw (hr : X.rmw.length ≤ 1000) : MIs F 184 X (SwP X) := by
  obtain ⟨A, hA, eA⟩ := mRelease S p10 h hr
  unfold SwP locR rfR
  rw [h.nOf]
  have r := kq h fun e _ => q_md 1 1 e
  have l := eq_loc h
  have read := (eq_inner h (eq_rf h)).or ((l.maybe h.n40).then (eq_outer h (eq_rf h)))
  refine ⟨_, pure_of p10.xref10_Sw ?_, (eA.then read).then (r.or ((eq_po h).then (eq_facq h)))⟩
  simp (disch := omega) only [A_xref10_Sw, wp, Nat.reduceAdd, Nat.reduceMul, Nat.reduceSub, gl, mRacq S p10 h, mFacq S p10 h, S.po h, S.loc h, S.rf h, S.inner h, S.outer h, S.maybe h, S.then h, S.or h, hA]
theorem mHb (hr : X.rmw.length ≤ 1000) : MIs F 185 X (HbP X) := by
  obtain ⟨A, hA, eA⟩ := mSw S p10 h hr
  unfold HbP
  rw [h.nOf]
  refine ⟨_, pure_of p10.xref10_Hb ?_, ((eq_po h).or eA).plus⟩
  simp (disch := omega) only [A_xref10_Hb, wp, Nat.reduceAdd, Nat.reduceMul, Nat.reduceSub, gl, S.po h, S.or h, S.plus h, hA]
end
end Go.Ab
end
section
/- Resolved functions of package xlaw10, written by a program (res.py). -/
namespace Go.Ab
def A_xlaw10_SyncModes : AFun := { res := [.t 4], body := (.seq (.reg false [{ dst := some 4, op := .mv (.c (.b false)) }])
 (.seq (.reg false [{ dst := some 14, op := .mv (.t 0) },
  { dst := some 15, op := .call .pure (.c (.fn 10 [] [])) [.t 14, .c (.i .i64 6)] },
  { dst := some 16, op := .mv (.t 1) },
  { dst := some 17, op := .call .pure (.c (.fn 10 [] [])) [.t 16, .c (.i .i64 6)] },
  { dst := some 5, op := .mv (.t 15) },
  { dst := some 6, op := .mv (.t 17) }])
 (.seq (.reg false [{ dst := some 18, op := .build (List.replicate 5 (.i .i64 0) ++ [.b false]) [(1, 1, .c (.i .i64 2))] },
  { dst := some 19, op := .build (List.replicate 5 (.i .i64 0) ++ [.b false]) [(1, 1, .c (.i .i64 2)), (3, 1, .c (.i .i64 1))] },
  { dst := some 20, op := .build (List.replicate 5 (.i .i64 0) ++ [.b false]) [(0, 1, .c (.i .i64 1)), (1, 1, .c (.i .i64 2)), (4, 1, .c (.i .i64 1))] },
  { dst := some 21, op := .bsl true 3 (List.replicate 5 (.i .i64 0) ++ [.b false] ++ List.replicate 5 (.i .i64 0) ++ [.b false] ++ List.replicate 5 (.i .i64 0) ++ [.b false]) [(0, 6, .t 18), (6, 6, .t 19), (12, 6, .t 20)] },
  { dst := some 7, op := .mv (.t 21) }])
 (.seq (.seq (.reg false [{ dst := some 22, op := .mv (.t 5) },
  { dst := some 23, op := .bin .geq (.t 22) (.c (.i .i64 2)) }])
 (.cond (.t 23) (.reg false [{ dst := some 24, op := .mv (.t 7) },
  { dst := some 25, op := .mv (.t 5) },
  { dst := some 26, op := .bin .sub (.t 25) (.c (.i .i64 1)) },
  { dst := some 27, op := .build (List.replicate 5 (.i .i64 0) ++ [.b false]) [(0, 1, .c (.i .i64 1)), (1, 1, .c (.i .i64 3)), (2, 1, .t 26)] },
  { dst := some 28, op := .bsl true 1 (List.replicate 5 (.i .i64 0) ++ [.b false]) [(0, 6, .t 27)] },
  { dst := some 29, op := .app 6 48 (.t 24) (.t 28) },
  { dst := some 7, op := .mv (.t 29) }])
 .skip))
 (.seq (.reg false [{ dst := some 30, op := .mv (.t 7) },
  { dst := some 31, op := .len (.t 30) },
  { dst := some 8, op := .mv (.t 31) }])
 (.seq (.reg false [{ dst := some 32, op := .mv (.t 7) },
  { dst := some 33, op := .build (List.replicate 5 (.i .i64 0) ++ [.b false]) [(0, 1, .c (.i .i64 1)), (1, 1, .c (.i .i64 2)), (3, 1, .c (.i .i64 1)), (4, 1, .c (.i .i64 1))] },
  { dst := some 34, op := .build (List.replicate 5 (.i .i64 0) ++ [.b false]) [(0, 1, .c (.i .i64 2)), (1, 1, .c (.i .i64 1)), (3, 1, .c (.i .i64 1)), (4, 1, .c (.i .i64 1))] },
  { dst := some 35, op := .bsl true 2 (List.replicate 5 (.i .i64 0) ++ [.b false] ++ List.replicate 5 (.i .i64 0) ++ [.b false]) [(0, 6, .t 33), (6, 6, .t 34)] },
  { dst := some 36, op := .app 6 48 (.t 32) (.t 35) },
  { dst := some 7, op := .mv (.t 36) }])
 (.seq (.seq (.reg false [{ dst := some 37, op := .mv (.t 5) },
  { dst := some 38, op := .bin .eql (.t 37) (.c (.i .i64 1)) }])
 (.cond (.t 38) (.reg false [{ dst := some 39, op := .mv (.t 7) },
  { dst := some 40, op := .mv (.t 8) },
  { dst := some 41, op := .ia 6 (.t 39) (.t 40) },
  { dst := some 42, op := .fa 2 (.t 41) },
  { dst := none, op := .st 1 (.t 42) (.c (.i .i64 2)) }])
 .skip))
 (.seq (.seq (.reg false [{ dst := some 43, op := .mv (.t 6) },
  { dst := some 44, op := .bin .eql (.t 43) (.c (.i .i64 1)) }])
 (.cond (.t 44) (.reg false [{ dst := some 45, op := .mv (.t 7) },
  { dst := some 46, op := .mv (.t 8) },
  { dst := some 47, op := .bin .add (.t 46) (.c (.i .i64 1)) },
  { dst := some 48, op := .ia 6 (.t 45) (.t 47) },
  { dst := some 49, op := .fa 2 (.t 48) },
  { dst := none, op := .st 1 (.t 49) (.c (.i .i64 1)) }])
 .skip))
 (.seq (.seq (.reg false [{ dst := some 50, op := .mv (.t 6) },
  { dst := some 51, op := .bin .geq (.t 50) (.c (.i .i64 2)) }])
 (.cond (.t 51) (.reg false [{ dst := some 52, op := .mv (.t 7) },
  { dst := some 53, op := .mv (.t 6) },
  { dst := some 54, op := .bin .sub (.t 53) (.c (.i .i64 1)) },
  { dst := some 55, op := .build (List.replicate 5 (.i .i64 0) ++ [.b false]) [(0, 1, .c (.i .i64 2)), (1, 1, .c (.i .i64 3)), (2, 1, .t 54)] },
  { dst := some 56, op := .bsl true 1 (List.replicate 5 (.i .i64 0) ++ [.b false]) [(0, 6, .t 55)] },
  { dst := some 57, op := .app 6 48 (.t 52) (.t 56) },
  { dst := some 7, op := .mv (.t 57) }])
 .skip))
 (.seq (.reg false [{ dst := some 58, op := .mv (.t 7) },
  { dst := some 59, op := .len (.t 58) },
  { dst := some 9, op := .mv (.t 59) }])
 (.seq (.reg false [{ dst := some 60, op := .mv (.t 7) },
  { dst := some 61, op := .build (List.replicate 5 (.i .i64 0) ++ [.b false]) [(0, 1, .c (.i .i64 2)), (1, 1, .c (.i .i64 1))] },
  { dst := some 62, op := .bsl true 1 (List.replicate 5 (.i .i64 0) ++ [.b false]) [(0, 6, .t 61)] },
  { dst := some 63, op := .app 6 48 (.t 60) (.t 62) },
  { dst := some 7, op := .mv (.t 63) }])
 (.seq (.reg false [{ dst := some 64, op := .mv (.t 7) },
  { dst := some 65, op := .bsl true 2 ([.i .i64 0, .i .i64 0]) [(0, 1, .c (.i .i64 0)), (1, 1, .c (.i .i64 2))] },
  { dst := some 66, op := .mv (.t 8) },
  { dst := some 67, op := .bsl true 2 ([.i .i64 0, .i .i64 0]) [(0, 1, .c (.i .i64 1)), (1, 1, .t 66)] },
  { dst := some 68, op := .bsl true 2 ([.sl [] 0 .rig, .sl [] 0 .rig]) [(0, 1, .t 65), (1, 1, .t 67)] },
  { dst := some 69, op := .build ([.i .i64 0] ++ List.replicate 7 (.sl [] 0 .rig)) [(0, 1, .c (.i .i64 2)), (1, 1, .t 64), (3, 1, .t 68)] },
  { dst := some 10, op := .new ([.i .i64 0] ++ List.replicate 7 (.sl [] 0 .rig)) },
  { dst := none, op := .st 8 (.t 10) (.t 69) }])
 (.seq (.seq (.reg false [{ dst := some 11, op := .mv (.c (.i .i64 0)) }])
 (.blk 0 (.loop (.seq (.seq (.reg false [{ dst := some 70, op := .mv (.t 11) },
  { dst := some 71, op := .mv (.t 7) },
  { dst := some 72, op := .len (.t 71) },
  { dst := some 73, op := .bin .lss (.t 70) (.t 72) }])
 (.cond (.t 73) .skip
 (.ext 0)))
 (.seq (.blk 1 (.reg false [{ dst := some 76, op := .fa 2 (.t 10) },
  { dst := some 77, op := .ld none (.t 76) },
  { dst := some 78, op := .bsl true 1 ([.i .i64 0]) [(0, 1, .c (.i .i64 (-1)))] },
  { dst := some 79, op := .app 1 8 (.t 77) (.t 78) },
  { dst := some 80, op := .fa 2 (.t 10) },
  { dst := none, op := .st 1 (.t 80) (.t 79) }]))
 (.reg false [{ dst := some 74, op := .mv (.t 11) },
  { dst := some 75, op := .bin .add (.t 74) (.c (.i .i64 1)) },
  { dst := some 11, op := .mv (.t 75) }]))))))
 (.seq (.reg true [{ dst := some 81, op := .fa 2 (.t 10) },
  { dst := some 82, op := .ld none (.t 81), pre := [] },
  { dst := some 83, op := .mv (.t 8) },
  { dst := some 84, op := .bin .add (.t 83) (.c (.i .i64 1)) },
  { dst := some 85, op := .fa 2 (.t 10) },
  { dst := some 86, op := .ld none (.t 85), pre := [] },
  { dst := some 87, op := .mv (.t 9) },
  { dst := some 88, op := .mv (.t 8) },
  { dst := some 89, op := .ia 1 (.t 82) (.t 84) },
  { dst := none, op := .st 1 (.t 89) (.t 88), pre := [] },
  { dst := some 90, op := .ia 1 (.t 86) (.t 87) },
  { dst := none, op := .st 1 (.t 90) (.c (.i .i64 0)), pre := [] }])
 (.seq (.reg false [{ dst := some 91, op := .mv (.t 5) },
  { dst := some 92, op := .bin .eql (.t 91) (.c (.i .i64 1)) },
  { dst := some 93, op := .mv (.t 92) },
  { dst := some 94, op := .mv (.t 5), grd := some (93, false) },
  { dst := some 95, op := .bin .geq (.t 94) (.c (.i .i64 3)), grd := some (93, false) },
  { dst := some 96, op := .pick (.t 93) (.c (.b true)) (.t 95) },
  { dst := some 97, op := .mv (.t 6) },
  { dst := some 98, op := .bin .eql (.t 97) (.c (.i .i64 1)) },
  { dst := some 99, op := .mv (.t 98) },
  { dst := some 100, op := .mv (.t 6), grd := some (99, false) },
  { dst := some 101, op := .bin .eql (.t 100) (.c (.i .i64 2)), grd := some (99, false) },
  { dst := some 102, op := .pick (.t 99) (.c (.b true)) (.t 101) },
  { dst := some 103, op := .mv (.t 102) },
  { dst := some 104, op := .mv (.t 6), grd := some (103, false) },
  { dst := some 105, op := .bin .geq (.t 104) (.c (.i .i64 4)), grd := some (103, false) },
  { dst := some 106, op := .pick (.t 103) (.c (.b true)) (.t 105) },
  { dst := some 12, op := .mv (.t 96) },
  { dst := some 13, op := .mv (.t 106) }])
 (.seq (.reg false [{ dst := some 107, op := .ld (some 8) (.t 10) },
  { dst := some 108, op := .call .pure (.c (.fn 148 [] [])) [.t 107] },
  { dst := some 109, op := .mv (.t 9) },
  { dst := some 110, op := .call .pure (.c (.fn 13 [] [])) [.t 108, .c (.i .i64 2), .t 109] },
  { dst := some 111, op := .mv (.t 12) },
  { dst := some 112, op := .mv (.t 111) },
  { dst := some 113, op := .mv (.t 13), grd := some (112, true) },
  { dst := some 114, op := .pick (.t 112) (.t 113) (.c (.b false)) },
  { dst := some 115, op := .eqb false (.t 110) (.t 114) },
  { dst := some 116, op := .mv (.t 115) },
  { dst := some 117, op := .ld (some 8) (.t 10), grd := some (116, true) },
  { dst := some 118, op := .call .pure (.c (.fn 149 [] [])) [.t 117], grd := some (116, true) },
  { dst := some 119, op := .call .pure (.c (.fn 15 [] [])) [.t 118], grd := some (116, true) },
  { dst := some 120, op := .len (.t 119), grd := some (116, true) },
  { dst := some 121, op := .bin .gtr (.t 120) (.c (.i .i64 0)), grd := some (116, true) },
  { dst := some 122, op := .mv (.t 12), grd := some (116, true) },
  { dst := some 123, op := .eqb false (.t 121) (.t 122), grd := some (116, true) },
  { dst := some 124, op := .pick (.t 116) (.t 123) (.c (.b false)) },
  { dst := some 125, op := .mv (.t 124) },
  { dst := some 126, op := .call .pure (.c (.fn 150 [] [])) [], grd := some (125, true) },
  { dst := some 127, op := .pick (.t 125) (.t 126) (.c (.b false)) },
  { dst := some 4, op := .mv (.t 127) }])
 .ret)))))))))))))))) }
def A_xlaw10_SyncAny : AFun := { res := [.t 2], body := (.seq (.reg false [{ dst := some 1, op := .box (.t 0) },
  { dst := some 2, op := .mv (.c (.b false)) }])
 (.seq (.seq (.reg false [{ dst := some 3, op := .ld (some 8) (.t 1) },
  { dst := some 4, op := .call .pure (.c (.fn 44 [] [])) [.t 3] },
  { dst := some 5, op := .un .not (.t 4) },
  { dst := some 6, op := .mv (.t 5) },
  { dst := some 7, op := .fa 1 (.t 1), grd := some (6, false) },
  { dst := some 8, op := .ld none (.t 7), grd := some (6, false) },
  { dst := some 9, op := .len (.t 8), grd := some (6, false) },
  { dst := some 10, op := .bin .gtr (.t 9) (.c (.i .i64 20)), grd := some (6, false) },
  { dst := some 11, op := .pick (.t 6) (.c (.b true)) (.t 10) },
  { dst := some 12, op := .mv (.t 11) },
  { dst := some 13, op := .ld (some 8) (.t 1), grd := some (12, false) },
  { dst := some 14, op := .call .pure (.c (.fn 45 [] [])) [.t 13], grd := some (12, false) },
  { dst := some 15, op := .un .not (.t 14), grd := some (12, false) },
  { dst := some 16, op := .pick (.t 12) (.c (.b true)) (.t 15) }])
 (.cond (.t 16) (.seq (.reg false [{ dst := some 17, op := .call .pure (.c (.fn 150 [] [])) [] },
  { dst := some 2, op := .mv (.t 17) }])
 .ret)
 .skip))
 (.seq (.reg false [{ dst := some 18, op := .ld (some 8) (.t 1) },
  { dst := some 19, op := .call .pure (.c (.fn 151 [] [])) [.t 18] },
  { dst := some 20, op := .mv (.t 19) },
  { dst := some 21, op := .call .pure (.c (.fn 150 [] [])) [], grd := some (20, true) },
  { dst := some 22, op := .pick (.t 20) (.t 21) (.c (.b false)) },
  { dst := some 2, op := .mv (.t 22) }])
 .ret))) }
def A_xlaw10_awake : AFun := { res := [.t 0], body := (.seq (.reg false [{ dst := some 0, op := .mv (.c (.b false)) }])
 (.seq (.reg false [{ dst := some 2, op := .call .pure (.c (.fn 180 [] [])) [.c (.i .i64 2), .c (.i .i64 1)] },
  { dst := some 1, op := .new ([.i .i64 0] ++ List.replicate 7 (.sl [] 0 .rig)) },
  { dst := none, op := .st 8 (.t 1) (.t 2) }])
 (.seq (.reg false [{ dst := some 3, op := .ld (some 8) (.t 1) },
  { dst := some 4, op := .call .pure (.c (.fn 176 [] [])) [.t 3] },
  { dst := some 5, op := .call .pure (.c (.fn 13 [] [])) [.t 4, .c (.i .i64 3), .c (.i .i64 4)] },
  { dst := some 6, op := .mv (.t 5) },
  { dst := some 7, op := .ld (some 8) (.t 1), grd := some (6, true) },
  { dst := some 8, op := .call .pure (.c (.fn 148 [] [])) [.t 7], grd := some (6, true) },
  { dst := some 9, op := .call .pure (.c (.fn 13 [] [])) [.t 8, .c (.i .i64 2), .c (.i .i64 5)], grd := some (6, true) },
  { dst := some 10, op := .pick (.t 6) (.t 9) (.c (.b false)) },
  { dst := some 11, op := .mv (.t 10) },
  { dst := some 12, op := .call .pure (.c (.fn 180 [] [])) [.c (.i .i64 0), .c (.i .i64 1)], grd := some (11, true) },
  { dst := some 13, op := .call .pure (.c (.fn 176 [] [])) [.t 12], grd := some (11, true) },
  { dst := some 14, op := .call .pure (.c (.fn 13 [] [])) [.t 13, .c (.i .i64 3), .c (.i .i64 4)], grd := some (11, true) },
  { dst := some 15, op := .un .not (.t 14), grd := some (11, true) },
  { dst := some 16, op := .pick (.t 11) (.t 15) (.c (.b false)) },
  { dst := some 17, op := .mv (.t 16) },
  { dst := some 18, op := .ld (some 8) (.t 1), grd := some (17, true) },
  { dst := some 19, op := .call .pure (.c (.fn 149 [] [])) [.t 18], grd := some (17, true) },
  { dst := some 20, op := .call .pure (.c (.fn 13 [] [])) [.t 19, .c (.i .i64 3), .c (.i .i64 3)], grd := some (17, true) },
  { dst := some 21, op := .pick (.t 17) (.t 20) (.c (.b false)) },
  { dst := some 22, op := .mv (.t 21) },
  { dst := some 23, op := .ld (some 8) (.t 1), grd := some (22, true) },
  { dst := some 24, op := .call .pure (.c (.fn 179 [] [])) [.t 23], grd := some (22, true) },
  { dst := some 25, op := .call .pure (.c (.fn 13 [] [])) [.t 24, .c (.i .i64 3), .c (.i .i64 3)], grd := some (22, true) },
  { dst := some 26, op := .pick (.t 22) (.t 25) (.c (.b false)) },
  { dst := some 0, op := .mv (.t 26) }])
 .ret))) }
def A_xlaw10_all : AFun := { res := [.t 2], body := (.seq (.reg false [{ dst := some 1, op := .box (.t 0) },
  { dst := some 2, op := .mv (.c (.b false)) }])
 (.seq (.reg true [{ dst := some 3, op := .ld (some 8) (.t 1), pre := [] },
  { dst := some 4, op := .call .pure (.c (.fn 179 [] [])) [.t 3], pre := [] },
  { dst := some 5, op := .ld (some 8) (.t 1), pre := [] },
  { dst := some 6, op := .call .pure (.c (.fn 182 [] [])) [.t 5], pre := [] },
  { dst := some 7, op := .call .pure (.c (.fn 181 [] [])) [.t 4, .t 6], pre := [] },
  { dst := some 8, op := .mv (.t 7) },
  { dst := some 9, op := .ld (some 8) (.t 1), grd := some (8, true), pre := [] },
  { dst := some 10, op := .call .pure (.c (.fn 149 [] [])) [.t 9], grd := some (8, true), pre := [] },
  { dst := some 11, op := .ld (some 8) (.t 1), grd := some (8, true), pre := [] },
  { dst := some 12, op := .call .pure (.c (.fn 183 [] [])) [.t 11], grd := some (8, true), pre := [] },
  { dst := some 13, op := .call .pure (.c (.fn 181 [] [])) [.t 10, .t 12], grd := some (8, true), pre := [] },
  { dst := some 14, op := .pick (.t 8) (.t 13) (.c (.b false)) },
  { dst := some 15, op := .mv (.t 14) },
  { dst := some 16, op := .ld (some 8) (.t 1), grd := some (15, true), pre := [] },
  { dst := some 17, op := .call .pure (.c (.fn 176 [] [])) [.t 16], grd := some (15, true), pre := [] },
  { dst := some 18, op := .ld (some 8) (.t 1), grd := some (15, true), pre := [] },
  { dst := some 19, op := .call .pure (.c (.fn 184 [] [])) [.t 18], grd := some (15, true), pre := [] },
  { dst := some 20, op := .call .pure (.c (.fn 181 [] [])) [.t 17, .t 19], grd := some (15, true), pre := [] },
  { dst := some 21, op := .pick (.t 15) (.t 20) (.c (.b false)) },
  { dst := some 22, op := .mv (.t 21) },
  { dst := some 23, op := .ld (some 8) (.t 1), grd := some (22, true), pre := [] },
  { dst := some 24, op := .call .pure (.c (.fn 148 [] [])) [.t 23], grd := some (22, true), pre := [] },
  { dst := some 25, op := .ld (some 8) (.t 1), grd := some (22, true), pre := [] },
  { dst := some 26, op := .call .pure (.c (.fn 185 [] [])) [.t 25], grd := some (22, true), pre := [] },
  { dst := some 27, op := .call .pure (.c (.fn 181 [] [])) [.t 24, .t 26], grd := some (22, true), pre := [] },
  { dst := some 28, op := .pick (.t 22) (.t 27) (.c (.b false)) },
  { dst := some 2, op := .mv (.t 28) }])
 .ret)) }
def A_xlaw10_handed : AFun := { res := [.cell 4 (some 8)], body := (.seq (.reg false [{ dst := some 4, op := .new ([.i .i64 0] ++ List.replicate 7 (.sl [] 0 .rig)) }])
 (.seq (.reg false [{ dst := some 6, op := .build (List.replicate 5 (.i .i64 0) ++ [.b false]) [(1, 1, .c (.i .i64 2))] },
  { dst := some 7, op := .build (List.replicate 5 (.i .i64 0) ++ [.b false]) [(1, 1, .c (.i .i64 2)), (3, 1, .c (.i .i64 1))] },
  { dst := some 8, op := .build (List.replicate 5 (.i .i64 0) ++ [.b false]) [(0, 1, .c (.i .i64 1)), (1, 1, .c (.i .i64 2)), (4, 1, .c (.i .i64 1))] },
  { dst := some 9, op := .mv (.t 0) },
  { dst := some 10, op := .build (List.replicate 5 (.i .i64 0) ++ [.b false]) [(0, 1, .c (.i .i64 1)), (1, 1, .c (.i .i64 2)), (2, 1, .t 9), (3, 1, .c (.i .i64 1)), (4, 1, .c (.i .i64 1))] },
  { dst := some 11, op := .mv (.t 1) },
  { dst := some 12, op := .build (List.replicate 5 (.i .i64 0) ++ [.b false]) [(0, 1, .c (.i .i64 2)), (1, 1, .c (.i .i64 1)), (2, 1, .t 11), (3, 1, .c (.i .i64 1)), (4, 1, .c (.i .i64 1))] },
  { dst := some 13, op := .build (List.replicate 5 (.i .i64 0) ++ [.b false]) [(0, 1, .c (.i .i64 2)), (1, 1, .c (.i .i64 1))] },
  { dst := some 14, op := .bsl true 6 (List.replicate 5 (.i .i64 0) ++ [.b false] ++ List.replicate 5 (.i .i64 0) ++ [.b false] ++ List.replicate 5 (.i .i64 0) ++ [.b false] ++ List.replicate 5 (.i .i64 0) ++ [.b false] ++ List.replicate 5 (.i .i64 0) ++ [.b false] ++ List.replicate 5 (.i .i64 0) ++ [.b false]) [(0, 6, .t 6), (6, 6, .t 7), (12, 6, .t 8), (18, 6, .t 10), (24, 6, .t 12), (30, 6, .t 13)] },
  { dst := some 5, op := .mv (.t 14) }])
 (.seq (.reg false [{ dst := some 15, op := .mv (.t 5) },
  { dst := some 16, op := .bsl true 6 (List.replicate 6 (.i .i64 0)) [(0, 1, .c (.i .i64 (-1))), (1, 1, .c (.i .i64 (-1))), (2, 1, .c (.i .i64 (-1))), (3, 1, .c (.i .i64 (-1))), (4, 1, .c (.i .i64 3)), (5, 1, .c (.i .i64 0))] },
  { dst := some 17, op := .bsl true 2 ([.i .i64 0, .i .i64 0]) [(0, 1, .c (.i .i64 0)), (1, 1, .c (.i .i64 2))] },
  { dst := some 18, op := .bsl true 2 ([.i .i64 0, .i .i64 0]) [(0, 1, .c (.i .i64 1)), (1, 1, .c (.i .i64 3))] },
  { dst := some 19, op := .bsl true 2 ([.sl [] 0 .rig, .sl [] 0 .rig]) [(0, 1, .t 17), (1, 1, .t 18)] },
  { dst := some 20, op := .build ([.i .i64 0] ++ List.replicate 7 (.sl [] 0 .rig)) [(0, 1, .c (.i .i64 2)), (1, 1, .t 15), (2, 1, .t 16), (3, 1, .t 19)] },
  { dst := none, op := .st 8 (.t 4) (.t 20) }])
 .ret))) }
def A_xlaw10_same : AFun := { res := [.t 4], body := (.seq (.reg false [{ dst := some 4, op := .mv (.c (.b false)) }])
 (.seq (.reg true [{ dst := some 5, op := .mv (.t 0) },
  { dst := some 6, op := .eqn true (.t 5) (.c (.nilp)) },
  { dst := some 7, op := .mv (.t 6) },
  { dst := some 8, op := .mv (.t 0), grd := some (7, true) },
  { dst := some 9, op := .call .pure (.c (.fn 17 [] [])) [.t 8], grd := some (7, true), pre := [] },
  { dst := some 10, op := .mv (.t 1), grd := some (7, true) },
  { dst := some 11, op := .nilck (.t 10), grd := some (7, true) },
  { dst := some 12, op := .fa 0 (.t 11), grd := some (7, true) },
  { dst := some 13, op := .ld none (.t 12), grd := some (7, true), pre := [] },
  { dst := some 14, op := .bin .eql (.t 9) (.t 13), grd := some (7, true) },
  { dst := some 15, op := .pick (.t 7) (.t 14) (.c (.b false)) },
  { dst := some 16, op := .mv (.t 15) },
  { dst := some 17, op := .mv (.t 0), grd := some (16, true) },
  { dst := some 18, op := .call .pure (.c (.fn 15 [] [])) [.t 17], grd := some (16, true), pre := [] },
  { dst := some 19, op := .mv (.t 1), grd := some (16, true) },
  { dst := some 20, op := .call .pure (.c (.fn 56 [] [])) [.t 19], grd := some (16, true), pre := [] },
  { dst := some 21, op := .call .pure (.c (.fn 55 [] [])) [.t 18, .t 20], grd := some (16, true), pre := [] },
  { dst := some 22, op := .pick (.t 16) (.t 21) (.c (.b false)) },
  { dst := some 4, op := .mv (.t 22) }])
 .ret)) }
structure Pk_xlaw10 (F : Funs) : Prop where
  xlaw10_SyncModes : F 136 = some A_xlaw10_SyncModes
  xlaw10_SyncAny : F 137 = some A_xlaw10_SyncAny
  xlaw10_awake : F 150 = some A_xlaw10_awake
  xlaw10_all : F 151 = some A_xlaw10_all
  xlaw10_handed : F 180 = some A_xlaw10_handed
  xlaw10_same : F 181 = some A_xlaw10_same
end Go.Ab
end
section
/- exegesislaw10: handed, awake, all; SyncAny. -/
set_option linter.unusedVariables false
set_option linter.unusedSimpArgs false
namespace Go.Ab
variable {F : Funs}
def handG (m k : Int) : Gr := ⟨2, [⟨0, 2, 0, 0, 0, false⟩, ⟨0, 2, 0, 1, 0, false⟩, ⟨1, 2, 0, 0, 1, false⟩, ⟨1, 2, m, 1, 1, false⟩, ⟨2, 1, k, 1, 1, false⟩, ⟨2, 1, 0, 0, 0, false⟩], [-1, -1, -1, -1, 3, 0], [[0, 2], [1, 3]], [], [], [], []⟩
theorem splice_s (a : AV) (cs : List AV) (k : Nat) (v w : AV) (vs : List AV) : splice (a :: cs) (k + 1) (v :: w :: vs) = a :: splice cs k (v :: w :: vs) := by
  simp only [splice, List.take_succ_cons, List.cons_append, List.length_cons]
  rw [show k + 1 + (vs.length + 1 + 1) = (k + (vs.length + 1 + 1)) + 1 by omega, List.drop_succ_cons]
theorem splice_6 (b1 b2 b3 b4 b5 b6 c1 c2 c3 c4 c5 c6 : AV) (cs : List AV) : splice (b1 :: b2 :: b3 :: b4 :: b5 :: b6 :: cs) 0 [c1, c2, c3, c4, c5, c6] = c1 :: c2 :: c3 :: c4 :: c5 :: c6 :: cs := rfl
theorem set_s (a : AV) (cs : List AV) (k : Nat) (v : AV) : (a :: cs).set (k + 1) v = a :: cs.set k v := rfl
set_option maxRecDepth 100000 in
set_option maxHeartbeats 4000000 in
theorem sp_handed (h180 : F 180 = some A_xlaw10_handed) (m k : Int) : pureS F 180 [.i .i64 m, .i .i64 k] = some (.agg (grC (handG m k))) := by
  refine pure_of h180 ?_
  have r5 : ∀ x : AV, List.replicate 5 x = [x, x, x, x, x] := fun _ => rfl
  have r6 : ∀ x : AV, List.replicate 6 x = [x, x, x, x, x, x] := fun _ => rfl
  have r7 : ∀ x : AV, List.replicate 7 x = [x, x, x, x, x, x, x] := fun _ => rfl
  have s8 : ∀ a1 a2 a3 a4 a5 a6 a7 a8 c1 c2 c3 c4 c5 c6 c7 c8 : AV, splice [a1, a2, a3, a4, a5, a6, a7, a8] 0 [c1, c2, c3, c4, c5, c6, c7, c8] = [c1, c2, c3, c4, c5, c6, c7, c8] := fun _ _ _ _ _ _ _ _ _ _ _ _ _ _ _ _ => rfl
  have p8 : ∀ a1 a2 a3 a4 a5 a6 a7 a8 : AV, part [a1, a2, a3, a4, a5, a6, a7, a8] 0 (some 8) = some (.agg [a1, a2, a3, a4, a5, a6, a7, a8]) := fun _ _ _ _ _ _ _ _ => rfl
  simp (disch := omega) only [A_xlaw10_handed, wp, Nat.reduceAdd, Nat.reduceMul, Nat.reduceSub, gl, res_cell, resC, r5, r6, r7, s8, p8, splice_s, splice_6, List.length_set]
  refine frz_d_agg ?_
  show frzL _ (7 + 1) _ = _
  simp only [frzL, frz]
  rfl
theorem hand_few (m k : Int) : Few (handG m k) := by
  refine ⟨by simp [handG], by simp [handG], ?_⟩
  intro c hc
  simp only [handG, List.mem_cons, List.not_mem_nil, or_false] at hc
  rcases hc with rfl | rfl <;> decide
theorem hand_1 : has (nOf (handG 2 1)) (SwP (handG 2 1)) 3 4 = true := by decide +kernel
theorem hand_2 : has (nOf (handG 2 1)) (HbP (handG 2 1)) 2 5 = true := by decide +kernel
theorem hand_3 : has (nOf (handG 0 1)) (SwP (handG 0 1)) 3 4 = false := by decide +kernel
theorem hand_4 : has (nOf (handG 2 1)) (ReleaseP (handG 2 1)) 3 3 = true := by decide +kernel
theorem hand_5 : has (nOf (handG 2 1)) (RsP (handG 2 1)) 3 3 = true := by decide +kernel
set_option maxRecDepth 100000 in
set_option maxHeartbeats 1000000 in
theorem sp_awake10 (h150 : F 150 = some A_xlaw10_awake) (h180 : F 180 = some A_xlaw10_handed) (S : SyncF F) : pureS F 150 [] = some (.b true) := by
  refine pure_of h150 ?_
  have f1 := hand_few 2 1
  have f2 := hand_few 0 1
  have n1 := nOf_le (handG 2 1)
  have n2 := nOf_le (handG 0 1)
  have r1 : (handG 2 1).rmw.length ≤ 1000 := by decide
  have r2 : (handG 0 1).rmw.length ≤ 1000 := by decide
  simp (disch := omega) only [A_xlaw10_awake, wp, Nat.reduceAdd, Nat.reduceMul, Nat.reduceSub, gl, sp_handed h180, splice_gr, sp_Sw S f1 r1, sp_Hb S f1 r1, sp_Sw S f2 r2, sp_Release S f1 r1, sp_Rs S f1 r1, sp_has S.pr n1, sp_has S.pr n2, hand_1, hand_2, hand_3, hand_4, hand_5]
set_option maxRecDepth 100000 in
set_option maxHeartbeats 4000000 in
theorem sp_all10 (h151 : F 151 = some A_xlaw10_all) (h181 : F 181 = some A_xlaw10_same) (S : SyncF F) (T : RefF F) (p10 : Pk_xref10 F) {X : Gr} (hX : FewG X) (h : GraphOk X) : pureS F 151 [.agg (grC X)] = some (.b true) := by
  refine pure_of h151 ?_
  have hf := hX.few
  have hr : X.rmw.length ≤ 1000 := by have := hX.rmw; omega
  have a1 := sp_Rs S hf hr
  have a2 := sp_Release S hf hr
  have a3 := sp_Sw S hf hr
  have a4 := sp_Hb S hf hr
  rw [h.nOf] at a1 a2 a3 a4
  obtain ⟨A1, b1, e1⟩ := mRs T p10 h hr
  obtain ⟨A2, b2, e2⟩ := mRelease T p10 h hr
  obtain ⟨A3, b3, e3⟩ := mSw T p10 h hr
  obtain ⟨A4, b4, e4⟩ := mHb T p10 h hr
  have hs : F 181 = some A_xlaw09_same := h181
  have c1 := sp_sameG hs T.px.xref01_SamePairs T.px.xref01_R_Pairs S.pr h.n40 e1.2
  have c2 := sp_sameG hs T.px.xref01_SamePairs T.px.xref01_R_Pairs S.pr h.n40 e2.2
  have c3 := sp_sameG hs T.px.xref01_SamePairs T.px.xref01_R_Pairs S.pr h.n40 e3.2
  have c4 := sp_sameG hs T.px.xref01_SamePairs T.px.xref01_R_Pairs S.pr h.n40 e4.2
  simp (disch := omega) only [A_xlaw10_all, wp, Nat.reduceAdd, Nat.reduceMul, Nat.reduceSub, gl, a1, a2, a3, a4, b1, b2, b3, b4, c1, c2, c3, c4]
set_option maxRecDepth 100000 in
set_option maxHeartbeats 4000000 in
theorem sp_syncAny {f : Nat} (hf : F f = some A_xlaw10_SyncAny) (h44 : F 44 = some A_xlaw00_FewGraph) (h150 : F 150 = some A_xlaw10_awake) (h180 : F 180 = some A_xlaw10_handed) (h151 : F 151 = some A_xlaw10_all) (h181 : F 181 = some A_xlaw10_same) (S : SyncF F) (T : RefF F) (p10 : Pk_xref10 F) (X : Gr) : pureS F f [.agg (grC X)] = some (.b true) := by
  refine pure_of hf ?_
  have aw := sp_awake10 h150 h180 S
  obtain ⟨b1, e1, p1⟩ := sp_fewGraph h44 X
  cases b1
  case false => simp (disch := omega) only [A_xlaw10_SyncAny, wp, Nat.reduceAdd, Nat.reduceMul, Nat.reduceSub, gl, e1, aw]
  have hX := p1 rfl
  by_cases hl : (20 : Int) < X.evs.length
  case pos => simp (disch := omega) only [A_xlaw10_SyncAny, wp, Nat.reduceAdd, Nat.reduceMul, Nat.reduceSub, gl, e1, aw, hl]
  obtain ⟨b2, e2, p2⟩ := sp_check T.p6.xref06_Check T.p6.xref06_event T.p6.xref06_rf T.p6.xref06_co T.p6.xref06_rmw T.p6.xref06_deps T.p6.xref06_rising hX
  cases b2
  case false => simp (disch := omega) only [A_xlaw10_SyncAny, wp, Nat.reduceAdd, Nat.reduceMul, Nat.reduceSub, gl, e1, aw, hl, e2]
  have h := p2 rfl
  have ha := sp_all10 h151 h181 S T p10 hX h
  simp (disch := omega) only [A_xlaw10_SyncAny, wp, Nat.reduceAdd, Nat.reduceMul, Nat.reduceSub, gl, e1, aw, hl, e2, ha]
end Go.Ab
end
