/- exegesislaw01.RelAll: the law holds of what the functions compute; the walk. -/
import Derived.Test.YtfhinaopoffcnaaLawD
import Derived.Test.YtfhinaopoffcnaaRefS4
set_option linter.unusedVariables false
set_option linter.unusedSimpArgs false
namespace Go.Ab
variable {F : Funs}
/-- The matrix has the relation's pairs. -/
def Eqv (A : Mx) (R : Rw) : Prop := ∀ a b, A a b = hb R a b
theorem upd2_get (M : Mx) (a b : Nat) (x : Bool) (i j : Nat) : upd2 M a b x i j = if i = a ∧ j = b then x else M i j := rfl
theorem eqv_new {n : Nat} (hn : n ≤ 40) (l : List (Int × Int)) : Eqv (newM n l) (newR n l) := by
  have key : ∀ (l : List (Int × Int)) (M : Mx) (R : Rw), Eqv M R → Eqv (l.foldl (addM n) M) (l.foldl (addR n) R) := by
    intro l
    induction l with
    | nil => intro M R h; exact h
    | cons p l ih =>
      intro M R h
      refine ih _ _ fun a b => ?_
      rw [hb_add hn]
      unfold addM
      by_cases hi : inR n p = true
      · rw [if_pos hi, upd2_get, hi]
        have hi' := hi
        simp only [inR, decide_eq_true_eq] at hi'
        by_cases h2 : a = p.1.toNat ∧ b = p.2.toNat
        · rw [if_pos h2]
          have : p = ((a : Int), (b : Int)) := by
            obtain ⟨x, y⟩ := p
            simp only at h2 hi'
            simp only [Prod.mk.injEq]; omega
          simp [this]
        · rw [if_neg h2, h a b]
          have : ¬ p = ((a : Int), (b : Int)) := by
            rintro rfl
            exact h2 ⟨by simp, by simp⟩
          simp [this]
      · rw [if_neg hi, h a b]
        simp only [Bool.not_eq_true] at hi
        simp [hi]
  exact key l _ _ fun a b => by rw [hb_zero]
/-- What 'same' asks. -/
def Same (n : Nat) (M : Mx) (R : Rw) : Prop := ∀ a b : Nat, a < n → b < n → M a b = has n R a b
theorem same_of {n : Nat} {M : Mx} {R : Rw} (h : ∀ a b, a < n → b < n → M a b = hb R a b) : Same n M R := fun a b ha hb' => by
  rw [h a b ha hb', has_N]
  simp [hN, ha, hb']
theorem opM_get (φ : Bool → Bool → Bool) (A B : Mx) (N a b : Nat) (ha : a < N) (hb' : b < N) : opM φ A B N a b = φ (A a b) (B a b) := by
  unfold opM stM; rw [if_pos (.inl ⟨ha, hb'⟩)]
theorem mback_get (A : Mx) (N a b : Nat) (ha : a < N) (hb' : b < N) : bkM A N N 0 a b = A b a := by
  unfold bkM; rw [if_pos (.inl ⟨hb', ha⟩)]
theorem t3M_get (A B : Mx) (N a k : Nat) (T : Mx) (i j : Nat) (hj : j < N) : t3M A B N a k T i j = (T i j || (decide (i = a) && (List.range k).any fun c => A a c && B c j)) := by
  induction k with
  | zero => simp [t3M]
  | succ k ih =>
    rw [t3M_succ, t2M, List.range_succ, List.any_append]
    cases hA : A a k with
    | true =>
      rw [if_pos rfl]
      unfold t1M
      by_cases hi : i = a
      · subst hi
        rw [if_pos ⟨rfl, hj⟩, ih]
        simp [hA, Bool.or_assoc]
      · rw [if_neg (fun h => hi h.1), ih]
        simp [hi]
    | false =>
      rw [if_neg (by simp), ih]
      simp [hA]
theorem thM_get (A B : Mx) (N k : Nat) (i j : Nat) (hj : j < N) : thM A B N k i j = (decide (i < k) && (List.range N).any fun c => A i c && B c j) := by
  induction k with
  | zero => simp [thM]
  | succ k ih =>
    rw [thM_succ, t3M_get _ _ _ _ _ _ _ _ hj, ih]
    by_cases hi : i = k
    · subst hi; simp
    · have : decide (i < k) = decide (i < k + 1) := by rw [decide_eq_decide]; omega
      rw [this]; simp [hi]
theorem p3M_get (N k m : Nat) (T : Mx) (i j : Nat) (hj : j < N) (hk : k < N) : p3M N k m T i j = (T i j || (decide (i < m) && T i k && T k j)) := by
  have key : ∀ m i j, p3M N k m T i j = (T i j || (decide (i < m) && decide (j < N) && T i k && T k j)) := by
    intro m
    induction m with
    | zero => intro i j; simp [p3M]
    | succ m ih =>
      intro i j
      rw [p3M_succ, p2M]
      have hmk : p3M N k m T m k = T m k := by rw [ih]; simp
      have hkj : ∀ j, p3M N k m T k j = T k j := fun j => by
        rw [ih]
        cases T k j <;> simp
      rw [hmk]
      cases hc : T m k with
      | true =>
        rw [if_pos rfl]
        unfold p1M
        by_cases hi : i = m
        · subst hi
          by_cases hjN : j < N
          · rw [if_pos ⟨rfl, hjN⟩, ih, hkj]
            simp [hjN, hc]
          · rw [if_neg (by omega), ih]
            simp [hjN]
        · rw [if_neg (fun h => hi h.1), ih]
          have : decide (i < m) = decide (i < m + 1) := by rw [decide_eq_decide]; omega
          rw [this]
      | false =>
        rw [if_neg (by simp), ih]
        by_cases hi : i = m
        · subst hi; simp [hc]
        · have : decide (i < m) = decide (i < m + 1) := by rw [decide_eq_decide]; omega
          rw [this]
  rw [key]; simp [hj]
theorem plM_get {N : Nat} {A : Mx} {R : Rw} (h : Eqv A R) (hR : Wf N R) : ∀ k, k ≤ N → ∀ i j, i < N → j < N → plM N A k i j = hb (plusK N k R) i j
  | 0, _, i, j, _, _ => h i j
  | k + 1, hk, i, j, hi, hj => by
    have ih := plM_get h hR k (by omega)
    rw [plM_succ, p3M_get _ _ _ _ _ _ hj (by omega), plusK_succ, hb_rowP (by omega) _ (wf_plusK hR k (by omega)) N (Nat.le_refl _), ih i j hi hj, ih i k hi (by omega), ih k j (by omega) hj]
theorem Wf.mono {n m : Nat} (h : n ≤ m) {R : Rw} (hR : Wf n R) : Wf m R := fun a b hh => by obtain ⟨h1, h2⟩ := hR a b hh; omega

set_option maxRecDepth 100000 in
theorem sp_same (h : F 28 = some A_xlaw01_same) (h55 : F 55 = some A_xref01_SamePairs) (h56 : F 56 = some A_xref01_R_Pairs) (pr : Pk_rel F) {n : Nat} (hn : n ≤ 40) {M : Mx} {R : Rw} (hM : Same n M R) : pureS F 28 [.ptr (relC n R), .ptr (matC n M)] = some (.b true) := by
  refine pure_of h ?_
  have hl := pairsR_len hn R
  simp (disch := omega) only [A_xlaw01_same, W_skip, W_ext, W_ret, W_seq, thenQ_nrm, thenQ_ext, thenQ_ret, W_cond, selW_true, selW_false, W_blk, blkQ_nrm, blkQ_ret, blkQ_same, blkQ_ne, W_reg, nrmQ_is, WR_nil, WR_cons, selO_true, selO_false, bindO_some, loopQ_nrm, loopQ_ext, loopQ_ret, wanted_none, wanted_some, wantV_1, wantV_0, wantV_undef, ev_t, ev_c, put_some, put_none, upd_same, upd_ne, List.length_cons, List.length_nil, List.map_cons, List.map_nil, allow_no, allow_lt, argEnv_0, argEnv_1, argEnv_2, argEnv_3, argEnv_4, argEnv_5, res_1, res_2, retQ_nrm, retQ_ret, o_mv, o_pick, vPick_t, vPick_f, o_new, o_box, vBox_S, boxD_ok, vMap_some, vMapL_some, o_build, o_ld, vLd_ptr, vLd_S, ldS_ok, selB_true, o_st, vSt_S, stS_ok, stD_ok, o_nilck, vNil_ptr, vNil_mp, vNil_fn, o_bin, o_un, o_mkfn, o_fa, vFa_mp, vFa_S, faD_ok, o_fld, vFld_agg, o_ia, vIa_sl, vIa_ms, o_iaa, vIaa_ptr, vIaa_mp, o_len, vLen_sl, vLen_ms, o_mx, o_mn, vMx_i, vMn_i, o_ext, vExt_tup, b_add, b_sub, b_mul, b_lss, b_leq, b_gtr, b_geq, b_eql, b_neq, o_pure, List.nil_append, List.append_nil, List.cons_append, frz_d_i, frz_d_b, frz_d_s, frz_d_nilp, frz_d_ptr, frz_d_sl, frz_d_fn0, Bool.not_true, Bool.not_false, Bool.true_and, Bool.and_true, Bool.false_and, Bool.and_false, decide_true, decide_false, beq_self_eq_true, Bool.true_eq_false, Bool.false_eq_true, Nat.zero_add, Nat.add_zero, Int.toNat_natCast, ge_iff_le, gt_iff_lt, fill_S, fillD_ok, fill_nil, cellsOf_agg, cellsOf_i, cellsOf_b, cellsOf_s, cellsOf_ptr, cellsOf_nilp, cellsOf_sl, cellsOf_mp, cellsOf_fn, one_i, one_b, one_s, one_ptr, one_nilp, one_sl, one_mp, one_fn, List.all_cons, List.all_nil, splice_1, splice_2, splice_3, part_0, part_1, part_2, drop_0, g0_nx, g0_hp, List.set_cons_zero, List.set_cons_succ, List.length_append, List.length_replicate, Nat.reduceAdd, Nat.reduceMul, Nat.reduceSub, eq_self, true_and, and_true, vPure_S, purS_some, purD_some, purE_true, frzL_cons, frzL_nil, consO_ok, flat_i, flat_b, flat_s, flat_nilp, flat_ptr, flat_sl, flat_agg, flat_tup, vis_i, vis_b, vis_s, vis_nilp, vis_ptr, vis_sl, vis_fn0, List.flatMap_cons, List.flatMap_nil, isEmpty_nil, Bool.true_or, Bool.false_or, Bool.or_true, Bool.or_false, frz_P, frz_Q, frzP_cells, frzB_true, map_some', rd_S, o_bsl, vBsl_t, vBsl_f, o_app, appD_ok, vApp_rig, vApp_rig0, appK_ok, vApp_own, o_eqn, o_eqb, o_eqa, aeqn_pn, aeqn_np, aeqn_mn, aeqn_nn, aeqb_bb, negb_t, negb_f, aun_not, midQ_nrm, matC_n, matC_at, matR_at, matC_drop1, matC_len, matR_len, matC_one, matR_one, matC_flat, part_matR, splice_mat, matC_set, retT_nrm, retT_ret, o_thaw, sp_len pr, sp_pairs pr hn, sp_mpairs h56 hn M R hM, sp_samePairs h55]
set_option maxRecDepth 100000 in
theorem sp_min (h : F 36 = some A_xref01_R_In) (h31 : F 31 = some A_xref01_R_Less) (h27 : F 27 = some A_xref01_New) (h56 : F 56 = some A_xref01_R_Pairs) {n m : Nat} (hn : n ≤ 40) (hm : m ≤ 40) {A B : Mx} {R S : Rw} (hA : Eqv A R) (hB : Eqv B S) (hR : Wf n R) : pureS F 36 [.ptr (matC n A), .ptr (matC m B)] = some (.b (noneR (lessR R S))) := by
  refine pure_of h ?_
  have hs : Same (max n m) (opM (fun x y => x && !y) A B (max n m)) (lessR R S) := same_of fun a b ha hb' => by rw [opM_get _ _ _ _ _ _ ha hb', hA, hB, hb_less]
  have hw : Wf (max n m) (lessR R S) := wf_less (hR.mono (by omega))
  have e : (((pairsR (max n m) (lessR R S)).length : Int) == 0) = noneR (lessR R S) := by
    cases hc : noneR (lessR R S) with
    | true => exact pairs_none ((noneR_iff (n := max n m) (by omega) hw).1 hc)
    | false =>
      rw [Bool.eq_false_iff, ne_eq, beq_iff_eq]
      intro h0
      have h0 : (pairsR (max n m) (lessR R S)).length = 0 := by omega
      have hnil := List.eq_nil_of_length_eq_zero h0
      have : noneR (lessR R S) = true := (noneR_iff (n := max n m) (by omega) hw).2 fun a b => by
        cases hab : hb (lessR R S) a b with
        | false => rfl
        | true =>
          have : ((a : Int), (b : Int)) ∈ pairsR (max n m) (lessR R S) := mem_pairsR.2 ⟨a, b, rfl, by rw [hN_wf hw]; exact hab⟩
          rw [hnil] at this; cases this
      rw [hc] at this; cases this
  simp (disch := omega) only [A_xref01_R_In, W_skip, W_ext, W_ret, W_seq, thenQ_nrm, thenQ_ext, thenQ_ret, W_cond, selW_true, selW_false, W_blk, blkQ_nrm, blkQ_ret, blkQ_same, blkQ_ne, W_reg, nrmQ_is, WR_nil, WR_cons, selO_true, selO_false, bindO_some, loopQ_nrm, loopQ_ext, loopQ_ret, wanted_none, wanted_some, wantV_1, wantV_0, wantV_undef, ev_t, ev_c, put_some, put_none, upd_same, upd_ne, List.length_cons, List.length_nil, List.map_cons, List.map_nil, allow_no, allow_lt, argEnv_0, argEnv_1, argEnv_2, argEnv_3, argEnv_4, argEnv_5, res_1, res_2, retQ_nrm, retQ_ret, o_mv, o_pick, vPick_t, vPick_f, o_new, o_box, vBox_S, boxD_ok, vMap_some, vMapL_some, o_build, o_ld, vLd_ptr, vLd_S, ldS_ok, selB_true, o_st, vSt_S, stS_ok, stD_ok, o_nilck, vNil_ptr, vNil_mp, vNil_fn, o_bin, o_un, o_mkfn, o_fa, vFa_mp, vFa_S, faD_ok, o_fld, vFld_agg, o_ia, vIa_sl, vIa_ms, o_iaa, vIaa_ptr, vIaa_mp, o_len, vLen_sl, vLen_ms, o_mx, o_mn, vMx_i, vMn_i, o_ext, vExt_tup, b_add, b_sub, b_mul, b_lss, b_leq, b_gtr, b_geq, b_eql, b_neq, o_pure, List.nil_append, List.append_nil, List.cons_append, frz_d_i, frz_d_b, frz_d_s, frz_d_nilp, frz_d_ptr, frz_d_sl, frz_d_fn0, Bool.not_true, Bool.not_false, Bool.true_and, Bool.and_true, Bool.false_and, Bool.and_false, decide_true, decide_false, beq_self_eq_true, Bool.true_eq_false, Bool.false_eq_true, Nat.zero_add, Nat.add_zero, Int.toNat_natCast, ge_iff_le, gt_iff_lt, fill_S, fillD_ok, fill_nil, cellsOf_agg, cellsOf_i, cellsOf_b, cellsOf_s, cellsOf_ptr, cellsOf_nilp, cellsOf_sl, cellsOf_mp, cellsOf_fn, one_i, one_b, one_s, one_ptr, one_nilp, one_sl, one_mp, one_fn, List.all_cons, List.all_nil, splice_1, splice_2, splice_3, part_0, part_1, part_2, drop_0, g0_nx, g0_hp, List.set_cons_zero, List.set_cons_succ, List.length_append, List.length_replicate, Nat.reduceAdd, Nat.reduceMul, Nat.reduceSub, eq_self, true_and, and_true, vPure_S, purS_some, purD_some, purE_true, frzL_cons, frzL_nil, consO_ok, flat_i, flat_b, flat_s, flat_nilp, flat_ptr, flat_sl, flat_agg, flat_tup, vis_i, vis_b, vis_s, vis_nilp, vis_ptr, vis_sl, vis_fn0, List.flatMap_cons, List.flatMap_nil, isEmpty_nil, Bool.true_or, Bool.false_or, Bool.or_true, Bool.or_false, frz_P, frz_Q, frzP_cells, frzB_true, map_some', rd_S, o_bsl, vBsl_t, vBsl_f, o_app, appD_ok, vApp_rig, vApp_rig0, appK_ok, vApp_own, o_eqn, o_eqb, o_eqa, aeqn_pn, aeqn_np, aeqn_mn, aeqn_nn, aeqb_bb, negb_t, negb_f, aun_not, midQ_nrm, sp_mless h31 h27 hn hm, sp_mpairs h56 (show max n m ≤ 40 by omega) _ _ hs, e]

def appT (m id esz : Nat) : Tok := if m = 0 then .rig else .own id esz
def appG (m id : Nat) (g : G) : G := if m = 0 then g else ⟨upd g.hp id (some (.tok true)), g.nx⟩
theorem vApp_copy {al : Nat → Bool} {id : Nat} {g : G} (l : List (Int × Int)) (t : Tok) (hl : l.length ≤ 200) : vApp al id 2 16 (.sl [] 0 .rig) (.sl (pairsC l) l.length t) g = some (.sl (pairsC l) l.length (appT l.length id 2), appG l.length id g) := by
  have hp := pairsC_len l
  unfold appT appG
  by_cases h0 : l.length = 0
  · rw [if_pos h0, if_pos h0]
    have : l = [] := List.eq_nil_of_length_eq_zero h0
    subst this
    have := vApp_rig0 (al := al) (g := g) (id := id) (esz := 2) (bytes := 16) (cs := []) (n := 0) (ds := []) (t2 := t)
    rw [appD_ok (by decide)] at this
    exact this
  · rw [if_neg h0, if_neg h0, vApp_rig h0, appD_ok (by
      refine ⟨by omega, by omega, by simp, hp⟩)]
    simp
end Go.Ab
