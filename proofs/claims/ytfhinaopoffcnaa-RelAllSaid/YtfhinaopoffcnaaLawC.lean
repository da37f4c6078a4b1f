/- exegesislaw01.RelSizes: the law holds of what the functions compute; the walk. -/
import Derived.Test.YtfhinaopoffcnaaLawB
set_option linter.unusedVariables false
set_option linter.unusedSimpArgs false
namespace Go.Ab
variable {F : Funs}
def inI (k : Nat) (a b : Int) : Bool := decide (0 ≤ a ∧ a < k ∧ 0 ≤ b ∧ b < k)
theorem hb_one {k : Nat} (hk : k ≤ 40) (a b : Int) (x y : Nat) : hb (newR k [(a, b)]) x y = true ↔ inI k a b = true ∧ a = x ∧ b = y := by
  rw [hb_new hk]
  simp only [List.any_cons, List.any_nil, Bool.or_false, Bool.and_eq_true, decide_eq_true_eq, Prod.mk.injEq, inI]
  omega
theorem hb_none {k : Nat} (hk : k ≤ 40) (x y : Nat) : hb (newR k []) x y = false := by
  rw [hb_new hk]; simp
theorem has_one {k m : Nat} (hk : k ≤ 40) (hm : k ≤ m) {a b : Int} {R : Rw} (h : ∀ x y, hb R x y = true ↔ inI k a b = true ∧ a = x ∧ b = y) : has m R a b = inI k a b := by
  unfold has
  rw [Bool.eq_iff_iff]
  simp only [Bool.and_eq_true, decide_eq_true_eq]
  constructor
  · rintro ⟨⟨h1, h2, h3, h4⟩, h5⟩
    exact ((h a.toNat b.toNat).1 h5).1
  · intro hi
    have hi' := hi
    simp only [inI, decide_eq_true_eq] at hi
    exact ⟨by omega, (h a.toNat b.toNat).2 ⟨hi', by omega, by omega⟩⟩
theorem pairsK_zero {n : Nat} {R : Rw} : ∀ k, (∀ a, a < k → (rowPr n R a n).length = 0) → (pairsK n k R).length = 0
  | 0, _ => by simp [pairsK]
  | k + 1, h => by rw [pairsK_succ, List.length_append, pairsK_zero k (fun a ha => h a (by omega)), h k (by omega)]
theorem pairsK_single {n : Nat} {R : Rw} {c : Nat} (h1 : (rowPr n R c n).length = 1) (h : ∀ a, a ≠ c → (rowPr n R a n).length = 0) : ∀ k, c < k → (pairsK n k R).length = 1
  | 0, hc => absurd hc (Nat.not_lt_zero _)
  | k + 1, hc => by
    rw [pairsK_succ, List.length_append]
    by_cases hk : k = c
    · subst hk
      rw [h1, pairsK_zero k (fun a ha => h a (by omega))]
    · rw [pairsK_single h1 h k (by omega), h k hk]
theorem pairs_one {k : Nat} (hk : k ≤ 40) {a b : Int} : (((pairsR k (newR k [(a, b)])).length : Int) == 1) = inI k a b := by
  have hw := wf_new hk [(a, b)]
  cases hi : inI k a b with
  | true =>
    have hi' := hi
    simp only [inI, decide_eq_true_eq] at hi
    have : (pairsR k (newR k [(a, b)])).length = 1 := by
      refine pairsK_single (c := a.toNat) (rowPr_one (c := b.toNat) (by omega) fun y => ?_) (fun x hx => rowPr_none fun y => ?_) k (by omega)
      · rw [hN_wf hw, hb_one hk]
        constructor
        · rintro ⟨_, _, h⟩; omega
        · rintro rfl; exact ⟨hi', by omega, by omega⟩
      · rw [hN_wf hw, hb_one hk]
        rintro ⟨_, h, _⟩; omega
    rw [this]; rfl
  | false =>
    have : (pairsR k (newR k [(a, b)])).length = 0 := by
      refine pairsK_zero k fun x _ => rowPr_none fun y => ?_
      rw [hN_wf hw, hb_one hk, hi]
      rintro ⟨h, _⟩; cases h
    rw [this]; rfl
theorem pairs_none {k : Nat} {R : Rw} (h : ∀ a b, hb R a b = false) : (((pairsR k R).length : Int) == 0) = true := by
  have : (pairsR k R).length = 0 := by
    refine pairsK_zero k fun x _ => rowPr_none fun y => ?_
    unfold hN; rw [h]; simp
  rw [this]; rfl

set_option maxHeartbeats 4000000 in
set_option maxRecDepth 100000 in
theorem sp_relSizes (h3 : F 3 = some A_xlaw01_RelSizes) (h19 : F 19 = some A_xlaw01_awake) (pr : Pk_rel F) (n m a b : Int) : pureS F 3 [.i .i64 n, .i .i64 m, .i .i64 a, .i .i64 b] = some (.b true) := by
  refine pure_of h3 ?_
  have hn1 : pureS F 11 [.i .i64 n, .sl [.i .i64 a, .i .i64 b] 1 .non] = some (.ptr (relC (clamp n) (newR (clamp n) [(a, b)]))) := sp_new pr n [(a, b)] .non (by simp)
  have hm1 : pureS F 11 [.i .i64 m, .sl [] 0 .non] = some (.ptr (relC (clamp m) (newR (clamp m) []))) := sp_new pr m [] .non (by simp)
  have hk := clamp_le n
  have hj := clamp_le m
  have c1 : (if (40 : Int) < (if n < 0 then (0 : Int) else n) then (40 : Int) else (if n < 0 then (0 : Int) else n)) = clamp n := by unfold clamp; split <;> split <;> omega
  have c2 : (if (40 : Int) < (if m < 0 then (0 : Int) else m) then (40 : Int) else (if m < 0 then (0 : Int) else m)) = clamp m := by unfold clamp; split <;> split <;> omega
  generalize clamp n = k at hn1 hk c1
  generalize clamp m = j at hm1 hj c2
  have hR := hb_one hk a b
  have hS := hb_none hj
  have wR := wf_new hk [(a, b)]
  have wS := wf_new hj []
  have p1 := pairs_one hk (a := a) (b := b)
  generalize newR k [(a, b)] = R at hn1 hR wR p1
  generalize newR j [] = S at hm1 hS wS
  have f1 : has k R a b = inI k a b := has_one hk (Nat.le_refl _) hR
  have f4 : has (max k j) (orR R S) a b = inI k a b := has_one hk (by omega) (fun x y => by rw [hb_or, hS, Bool.or_false]; exact hR x y)
  have f6 : (((pairsR (max k j) (andR R S)).length : Int) == 0) = true := pairs_none fun x y => by rw [hb_and, hS, Bool.and_false]
  have f7 : noneR (lessR S R) = true := (in_iff hj wS).2 fun x y h => by rw [hS] at h; cases h
  have f8 : noneR (lessR R S) = !inI k a b := by
    cases hi : inI k a b with
    | true =>
      rw [Bool.not_true, Bool.eq_false_iff, ne_eq, in_iff hk wR]
      intro h
      have hi' := hi
      simp only [inI, decide_eq_true_eq] at hi
      have := h a.toNat b.toNat ((hR _ _).2 ⟨hi', by omega, by omega⟩)
      rw [hS] at this; cases this
    | false =>
      exact (in_iff hk wR).2 fun x y h => by have := ((hR x y).1 h).1; rw [hi] at this; cases this
  have f9 : has k (backR k R) b a = inI k a b := by
    have h : ∀ x y, hb (backR k R) x y = true ↔ inI k b a = true ∧ b = x ∧ a = y := fun x y => by
      rw [hb_back hk, hN_wf wR, hR]
      have : inI k a b = inI k b a := by unfold inI; rw [decide_eq_decide]; omega
      rw [this]
      constructor <;> rintro ⟨h1, h2, h3⟩ <;> exact ⟨h1, h3, h2⟩
    rw [has_one hk (Nat.le_refl _) h]
    unfold inI; rw [decide_eq_decide]; omega
  have mx1 := Nat.max_comm j k
  have hmk : max k j ≤ 40 := by omega
  have aw := sp_awake h19 pr
  by_cases i1 : 0 ≤ a
  · by_cases i2 : 0 ≤ b
    · by_cases i3 : a < k
      · by_cases i4 : b < k
        · have hI : inI k a b = true := by simp [inI, i1, i2, i3, i4]
          rw [hI] at f1 p1 f4 f8 f9
          simp (disch := omega) only [A_xlaw01_RelSizes, W_skip, W_ext, W_ret, W_seq, thenQ_nrm, thenQ_ext, thenQ_ret, W_cond, selW_true, selW_false, W_blk, blkQ_nrm, blkQ_ret, blkQ_same, blkQ_ne, W_reg, nrmQ_is, WR_nil, WR_cons, selO_true, selO_false, bindO_some, loopQ_nrm, loopQ_ext, loopQ_ret, wanted_none, wanted_some, wantV_1, wantV_0, wantV_undef, ev_t, ev_c, put_some, put_none, upd_same, upd_ne, List.length_cons, List.length_nil, List.map_cons, List.map_nil, allow_no, allow_lt, argEnv_0, argEnv_1, argEnv_2, argEnv_3, argEnv_4, argEnv_5, res_1, res_2, retQ_nrm, retQ_ret, o_mv, o_pick, vPick_t, vPick_f, o_new, o_box, vBox_S, boxD_ok, vMap_some, vMapL_some, o_build, o_ld, vLd_ptr, vLd_S, ldS_ok, selB_true, o_st, vSt_S, stS_ok, stD_ok, o_nilck, vNil_ptr, vNil_mp, vNil_fn, o_bin, o_un, o_mkfn, o_fa, vFa_mp, vFa_S, faD_ok, o_fld, vFld_agg, o_ia, vIa_sl, vIa_ms, o_iaa, vIaa_ptr, vIaa_mp, o_len, vLen_sl, vLen_ms, o_mx, o_mn, vMx_i, vMn_i, o_ext, vExt_tup, b_add, b_sub, b_mul, b_lss, b_leq, b_gtr, b_geq, b_eql, b_neq, o_pure, List.nil_append, List.append_nil, List.cons_append, frz_d_i, frz_d_b, frz_d_s, frz_d_nilp, frz_d_ptr, frz_d_sl, frz_d_fn0, Bool.not_true, Bool.not_false, Bool.true_and, Bool.and_true, Bool.false_and, Bool.and_false, decide_true, decide_false, beq_self_eq_true, Bool.true_eq_false, Bool.false_eq_true, Nat.zero_add, Nat.add_zero, Int.toNat_natCast, ge_iff_le, gt_iff_lt, fill_S, fillD_ok, fill_nil, cellsOf_agg, cellsOf_i, cellsOf_b, cellsOf_s, cellsOf_ptr, cellsOf_nilp, cellsOf_sl, cellsOf_mp, cellsOf_fn, one_i, one_b, one_s, one_ptr, one_nilp, one_sl, one_mp, one_fn, List.all_cons, List.all_nil, splice_1, splice_2, splice_3, part_0, part_1, part_2, drop_0, g0_nx, g0_hp, List.set_cons_zero, List.set_cons_succ, List.length_append, List.length_replicate, Nat.reduceAdd, Nat.reduceMul, Nat.reduceSub, eq_self, true_and, and_true, vPure_S, purS_some, purD_some, purE_true, frzL_cons, frzL_nil, consO_ok, flat_i, flat_b, flat_s, flat_nilp, flat_ptr, flat_sl, flat_agg, flat_tup, vis_i, vis_b, vis_s, vis_nilp, vis_ptr, vis_sl, vis_fn0, List.flatMap_cons, List.flatMap_nil, isEmpty_nil, Bool.true_or, Bool.false_or, Bool.or_true, Bool.or_false, frz_P, frz_Q, frzP_cells, frzB_true, map_some', rd_S, o_bsl, vBsl_t, vBsl_f, o_app, appD_ok, vApp_rig, vApp_rig0, appK_ok, vApp_own, o_eqn, o_eqb, o_eqa, aeqn_pn, aeqn_np, aeqn_mn, aeqn_nn, aeqb_bb, negb_t, negb_f, aun_not, midQ_nrm, hn1, hm1, c1, c2, sp_len pr, i1, i2, i3, i4, sp_has pr, f1, sp_pairs pr, p1, sp_or pr, maxI, f4, sp_then pr, mx1, sp_and pr, f6, sp_in pr, f7, f8, sp_back pr, f9, aw, bne_self_eq_false]
        · have hI : inI k a b = false := by simp [inI, i4]
          rw [hI] at f1 p1 f4 f8 f9
          simp (disch := omega) only [A_xlaw01_RelSizes, W_skip, W_ext, W_ret, W_seq, thenQ_nrm, thenQ_ext, thenQ_ret, W_cond, selW_true, selW_false, W_blk, blkQ_nrm, blkQ_ret, blkQ_same, blkQ_ne, W_reg, nrmQ_is, WR_nil, WR_cons, selO_true, selO_false, bindO_some, loopQ_nrm, loopQ_ext, loopQ_ret, wanted_none, wanted_some, wantV_1, wantV_0, wantV_undef, ev_t, ev_c, put_some, put_none, upd_same, upd_ne, List.length_cons, List.length_nil, List.map_cons, List.map_nil, allow_no, allow_lt, argEnv_0, argEnv_1, argEnv_2, argEnv_3, argEnv_4, argEnv_5, res_1, res_2, retQ_nrm, retQ_ret, o_mv, o_pick, vPick_t, vPick_f, o_new, o_box, vBox_S, boxD_ok, vMap_some, vMapL_some, o_build, o_ld, vLd_ptr, vLd_S, ldS_ok, selB_true, o_st, vSt_S, stS_ok, stD_ok, o_nilck, vNil_ptr, vNil_mp, vNil_fn, o_bin, o_un, o_mkfn, o_fa, vFa_mp, vFa_S, faD_ok, o_fld, vFld_agg, o_ia, vIa_sl, vIa_ms, o_iaa, vIaa_ptr, vIaa_mp, o_len, vLen_sl, vLen_ms, o_mx, o_mn, vMx_i, vMn_i, o_ext, vExt_tup, b_add, b_sub, b_mul, b_lss, b_leq, b_gtr, b_geq, b_eql, b_neq, o_pure, List.nil_append, List.append_nil, List.cons_append, frz_d_i, frz_d_b, frz_d_s, frz_d_nilp, frz_d_ptr, frz_d_sl, frz_d_fn0, Bool.not_true, Bool.not_false, Bool.true_and, Bool.and_true, Bool.false_and, Bool.and_false, decide_true, decide_false, beq_self_eq_true, Bool.true_eq_false, Bool.false_eq_true, Nat.zero_add, Nat.add_zero, Int.toNat_natCast, ge_iff_le, gt_iff_lt, fill_S, fillD_ok, fill_nil, cellsOf_agg, cellsOf_i, cellsOf_b, cellsOf_s, cellsOf_ptr, cellsOf_nilp, cellsOf_sl, cellsOf_mp, cellsOf_fn, one_i, one_b, one_s, one_ptr, one_nilp, one_sl, one_mp, one_fn, List.all_cons, List.all_nil, splice_1, splice_2, splice_3, part_0, part_1, part_2, drop_0, g0_nx, g0_hp, List.set_cons_zero, List.set_cons_succ, List.length_append, List.length_replicate, Nat.reduceAdd, Nat.reduceMul, Nat.reduceSub, eq_self, true_and, and_true, vPure_S, purS_some, purD_some, purE_true, frzL_cons, frzL_nil, consO_ok, flat_i, flat_b, flat_s, flat_nilp, flat_ptr, flat_sl, flat_agg, flat_tup, vis_i, vis_b, vis_s, vis_nilp, vis_ptr, vis_sl, vis_fn0, List.flatMap_cons, List.flatMap_nil, isEmpty_nil, Bool.true_or, Bool.false_or, Bool.or_true, Bool.or_false, frz_P, frz_Q, frzP_cells, frzB_true, map_some', rd_S, o_bsl, vBsl_t, vBsl_f, o_app, appD_ok, vApp_rig, vApp_rig0, appK_ok, vApp_own, o_eqn, o_eqb, o_eqa, aeqn_pn, aeqn_np, aeqn_mn, aeqn_nn, aeqb_bb, negb_t, negb_f, aun_not, midQ_nrm, hn1, hm1, c1, c2, sp_len pr, i1, i2, i3, i4, sp_has pr, f1, sp_pairs pr, p1, sp_or pr, maxI, f4, sp_then pr, mx1, sp_and pr, f6, sp_in pr, f7, f8, sp_back pr, f9, aw, bne_self_eq_false]
      · have hI : inI k a b = false := by simp [inI, i3]
        rw [hI] at f1 p1 f4 f8 f9
        simp (disch := omega) only [A_xlaw01_RelSizes, W_skip, W_ext, W_ret, W_seq, thenQ_nrm, thenQ_ext, thenQ_ret, W_cond, selW_true, selW_false, W_blk, blkQ_nrm, blkQ_ret, blkQ_same, blkQ_ne, W_reg, nrmQ_is, WR_nil, WR_cons, selO_true, selO_false, bindO_some, loopQ_nrm, loopQ_ext, loopQ_ret, wanted_none, wanted_some, wantV_1, wantV_0, wantV_undef, ev_t, ev_c, put_some, put_none, upd_same, upd_ne, List.length_cons, List.length_nil, List.map_cons, List.map_nil, allow_no, allow_lt, argEnv_0, argEnv_1, argEnv_2, argEnv_3, argEnv_4, argEnv_5, res_1, res_2, retQ_nrm, retQ_ret, o_mv, o_pick, vPick_t, vPick_f, o_new, o_box, vBox_S, boxD_ok, vMap_some, vMapL_some, o_build, o_ld, vLd_ptr, vLd_S, ldS_ok, selB_true, o_st, vSt_S, stS_ok, stD_ok, o_nilck, vNil_ptr, vNil_mp, vNil_fn, o_bin, o_un, o_mkfn, o_fa, vFa_mp, vFa_S, faD_ok, o_fld, vFld_agg, o_ia, vIa_sl, vIa_ms, o_iaa, vIaa_ptr, vIaa_mp, o_len, vLen_sl, vLen_ms, o_mx, o_mn, vMx_i, vMn_i, o_ext, vExt_tup, b_add, b_sub, b_mul, b_lss, b_leq, b_gtr, b_geq, b_eql, b_neq, o_pure, List.nil_append, List.append_nil, List.cons_append, frz_d_i, frz_d_b, frz_d_s, frz_d_nilp, frz_d_ptr, frz_d_sl, frz_d_fn0, Bool.not_true, Bool.not_false, Bool.true_and, Bool.and_true, Bool.false_and, Bool.and_false, decide_true, decide_false, beq_self_eq_true, Bool.true_eq_false, Bool.false_eq_true, Nat.zero_add, Nat.add_zero, Int.toNat_natCast, ge_iff_le, gt_iff_lt, fill_S, fillD_ok, fill_nil, cellsOf_agg, cellsOf_i, cellsOf_b, cellsOf_s, cellsOf_ptr, cellsOf_nilp, cellsOf_sl, cellsOf_mp, cellsOf_fn, one_i, one_b, one_s, one_ptr, one_nilp, one_sl, one_mp, one_fn, List.all_cons, List.all_nil, splice_1, splice_2, splice_3, part_0, part_1, part_2, drop_0, g0_nx, g0_hp, List.set_cons_zero, List.set_cons_succ, List.length_append, List.length_replicate, Nat.reduceAdd, Nat.reduceMul, Nat.reduceSub, eq_self, true_and, and_true, vPure_S, purS_some, purD_some, purE_true, frzL_cons, frzL_nil, consO_ok, flat_i, flat_b, flat_s, flat_nilp, flat_ptr, flat_sl, flat_agg, flat_tup, vis_i, vis_b, vis_s, vis_nilp, vis_ptr, vis_sl, vis_fn0, List.flatMap_cons, List.flatMap_nil, isEmpty_nil, Bool.true_or, Bool.false_or, Bool.or_true, Bool.or_false, frz_P, frz_Q, frzP_cells, frzB_true, map_some', rd_S, o_bsl, vBsl_t, vBsl_f, o_app, appD_ok, vApp_rig, vApp_rig0, appK_ok, vApp_own, o_eqn, o_eqb, o_eqa, aeqn_pn, aeqn_np, aeqn_mn, aeqn_nn, aeqb_bb, negb_t, negb_f, aun_not, midQ_nrm, hn1, hm1, c1, c2, sp_len pr, i1, i2, i3, sp_has pr, f1, sp_pairs pr, p1, sp_or pr, maxI, f4, sp_then pr, mx1, sp_and pr, f6, sp_in pr, f7, f8, sp_back pr, f9, aw, bne_self_eq_false]
    · have hI : inI k a b = false := by simp [inI, i2]
      rw [hI] at f1 p1 f4 f8 f9
      simp (disch := omega) only [A_xlaw01_RelSizes, W_skip, W_ext, W_ret, W_seq, thenQ_nrm, thenQ_ext, thenQ_ret, W_cond, selW_true, selW_false, W_blk, blkQ_nrm, blkQ_ret, blkQ_same, blkQ_ne, W_reg, nrmQ_is, WR_nil, WR_cons, selO_true, selO_false, bindO_some, loopQ_nrm, loopQ_ext, loopQ_ret, wanted_none, wanted_some, wantV_1, wantV_0, wantV_undef, ev_t, ev_c, put_some, put_none, upd_same, upd_ne, List.length_cons, List.length_nil, List.map_cons, List.map_nil, allow_no, allow_lt, argEnv_0, argEnv_1, argEnv_2, argEnv_3, argEnv_4, argEnv_5, res_1, res_2, retQ_nrm, retQ_ret, o_mv, o_pick, vPick_t, vPick_f, o_new, o_box, vBox_S, boxD_ok, vMap_some, vMapL_some, o_build, o_ld, vLd_ptr, vLd_S, ldS_ok, selB_true, o_st, vSt_S, stS_ok, stD_ok, o_nilck, vNil_ptr, vNil_mp, vNil_fn, o_bin, o_un, o_mkfn, o_fa, vFa_mp, vFa_S, faD_ok, o_fld, vFld_agg, o_ia, vIa_sl, vIa_ms, o_iaa, vIaa_ptr, vIaa_mp, o_len, vLen_sl, vLen_ms, o_mx, o_mn, vMx_i, vMn_i, o_ext, vExt_tup, b_add, b_sub, b_mul, b_lss, b_leq, b_gtr, b_geq, b_eql, b_neq, o_pure, List.nil_append, List.append_nil, List.cons_append, frz_d_i, frz_d_b, frz_d_s, frz_d_nilp, frz_d_ptr, frz_d_sl, frz_d_fn0, Bool.not_true, Bool.not_false, Bool.true_and, Bool.and_true, Bool.false_and, Bool.and_false, decide_true, decide_false, beq_self_eq_true, Bool.true_eq_false, Bool.false_eq_true, Nat.zero_add, Nat.add_zero, Int.toNat_natCast, ge_iff_le, gt_iff_lt, fill_S, fillD_ok, fill_nil, cellsOf_agg, cellsOf_i, cellsOf_b, cellsOf_s, cellsOf_ptr, cellsOf_nilp, cellsOf_sl, cellsOf_mp, cellsOf_fn, one_i, one_b, one_s, one_ptr, one_nilp, one_sl, one_mp, one_fn, List.all_cons, List.all_nil, splice_1, splice_2, splice_3, part_0, part_1, part_2, drop_0, g0_nx, g0_hp, List.set_cons_zero, List.set_cons_succ, List.length_append, List.length_replicate, Nat.reduceAdd, Nat.reduceMul, Nat.reduceSub, eq_self, true_and, and_true, vPure_S, purS_some, purD_some, purE_true, frzL_cons, frzL_nil, consO_ok, flat_i, flat_b, flat_s, flat_nilp, flat_ptr, flat_sl, flat_agg, flat_tup, vis_i, vis_b, vis_s, vis_nilp, vis_ptr, vis_sl, vis_fn0, List.flatMap_cons, List.flatMap_nil, isEmpty_nil, Bool.true_or, Bool.false_or, Bool.or_true, Bool.or_false, frz_P, frz_Q, frzP_cells, frzB_true, map_some', rd_S, o_bsl, vBsl_t, vBsl_f, o_app, appD_ok, vApp_rig, vApp_rig0, appK_ok, vApp_own, o_eqn, o_eqb, o_eqa, aeqn_pn, aeqn_np, aeqn_mn, aeqn_nn, aeqb_bb, negb_t, negb_f, aun_not, midQ_nrm, hn1, hm1, c1, c2, sp_len pr, i1, i2, sp_has pr, f1, sp_pairs pr, p1, sp_or pr, maxI, f4, sp_then pr, mx1, sp_and pr, f6, sp_in pr, f7, f8, sp_back pr, f9, aw, bne_self_eq_false]
  · have hI : inI k a b = false := by simp [inI, i1]
    rw [hI] at f1 p1 f4 f8 f9
    simp (disch := omega) only [A_xlaw01_RelSizes, W_skip, W_ext, W_ret, W_seq, thenQ_nrm, thenQ_ext, thenQ_ret, W_cond, selW_true, selW_false, W_blk, blkQ_nrm, blkQ_ret, blkQ_same, blkQ_ne, W_reg, nrmQ_is, WR_nil, WR_cons, selO_true, selO_false, bindO_some, loopQ_nrm, loopQ_ext, loopQ_ret, wanted_none, wanted_some, wantV_1, wantV_0, wantV_undef, ev_t, ev_c, put_some, put_none, upd_same, upd_ne, List.length_cons, List.length_nil, List.map_cons, List.map_nil, allow_no, allow_lt, argEnv_0, argEnv_1, argEnv_2, argEnv_3, argEnv_4, argEnv_5, res_1, res_2, retQ_nrm, retQ_ret, o_mv, o_pick, vPick_t, vPick_f, o_new, o_box, vBox_S, boxD_ok, vMap_some, vMapL_some, o_build, o_ld, vLd_ptr, vLd_S, ldS_ok, selB_true, o_st, vSt_S, stS_ok, stD_ok, o_nilck, vNil_ptr, vNil_mp, vNil_fn, o_bin, o_un, o_mkfn, o_fa, vFa_mp, vFa_S, faD_ok, o_fld, vFld_agg, o_ia, vIa_sl, vIa_ms, o_iaa, vIaa_ptr, vIaa_mp, o_len, vLen_sl, vLen_ms, o_mx, o_mn, vMx_i, vMn_i, o_ext, vExt_tup, b_add, b_sub, b_mul, b_lss, b_leq, b_gtr, b_geq, b_eql, b_neq, o_pure, List.nil_append, List.append_nil, List.cons_append, frz_d_i, frz_d_b, frz_d_s, frz_d_nilp, frz_d_ptr, frz_d_sl, frz_d_fn0, Bool.not_true, Bool.not_false, Bool.true_and, Bool.and_true, Bool.false_and, Bool.and_false, decide_true, decide_false, beq_self_eq_true, Bool.true_eq_false, Bool.false_eq_true, Nat.zero_add, Nat.add_zero, Int.toNat_natCast, ge_iff_le, gt_iff_lt, fill_S, fillD_ok, fill_nil, cellsOf_agg, cellsOf_i, cellsOf_b, cellsOf_s, cellsOf_ptr, cellsOf_nilp, cellsOf_sl, cellsOf_mp, cellsOf_fn, one_i, one_b, one_s, one_ptr, one_nilp, one_sl, one_mp, one_fn, List.all_cons, List.all_nil, splice_1, splice_2, splice_3, part_0, part_1, part_2, drop_0, g0_nx, g0_hp, List.set_cons_zero, List.set_cons_succ, List.length_append, List.length_replicate, Nat.reduceAdd, Nat.reduceMul, Nat.reduceSub, eq_self, true_and, and_true, vPure_S, purS_some, purD_some, purE_true, frzL_cons, frzL_nil, consO_ok, flat_i, flat_b, flat_s, flat_nilp, flat_ptr, flat_sl, flat_agg, flat_tup, vis_i, vis_b, vis_s, vis_nilp, vis_ptr, vis_sl, vis_fn0, List.flatMap_cons, List.flatMap_nil, isEmpty_nil, Bool.true_or, Bool.false_or, Bool.or_true, Bool.or_false, frz_P, frz_Q, frzP_cells, frzB_true, map_some', rd_S, o_bsl, vBsl_t, vBsl_f, o_app, appD_ok, vApp_rig, vApp_rig0, appK_ok, vApp_own, o_eqn, o_eqb, o_eqa, aeqn_pn, aeqn_np, aeqn_mn, aeqn_nn, aeqb_bb, negb_t, negb_f, aun_not, midQ_nrm, hn1, hm1, c1, c2, sp_len pr, i1, sp_has pr, f1, sp_pairs pr, p1, sp_or pr, maxI, f4, sp_then pr, mx1, sp_and pr, f6, sp_in pr, f7, f8, sp_back pr, f9, aw, bne_self_eq_false]
end Go.Ab
