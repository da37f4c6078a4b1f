/- exegesislaw01.RelAlgebra: the law holds of what the functions compute; the walk. -/
import Derived.Test.YtfhinaopoffcnaaLawC
set_option linter.unusedVariables false
set_option linter.unusedSimpArgs false
namespace Go.Ab
variable {F : Funs}
theorem ints_part {l : List Int} {k : Nat} (h : k < l.length) : part ((intsC l).drop (k * 1)) 0 none = some (.i .i64 (l.getD k 0)) := by
  simp only [part, intsC, List.getElem?_drop, Nat.mul_one, Nat.add_zero, List.getElem?_map, List.getElem?_eq_getElem h, Option.map_some, List.getD_eq_getElem?_getD, Option.getD_some]
def smP (k : Nat) (v : Int) : Int × Int := (place v ((k * k : Nat) : Int) / k, place v ((k * k : Nat) : Int) % k)
def someP (k : Nat) (l : List Int) (i : Nat) : List (Int × Int) := (l.take i).map (smP k)
theorem someP_succ {k : Nat} {l : List Int} {i : Nat} (h : i < l.length) : someP k l (i + 1) = someP k l i ++ [smP k (l.getD i 0)] := by
  unfold someP
  rw [List.take_add_one, List.getElem?_eq_getElem h, List.getD_eq_getElem?_getD, List.getElem?_eq_getElem h, List.map_append]
  rfl
theorem someP_len {k : Nat} {l : List Int} {i : Nat} (h : i ≤ l.length) : (someP k l i).length = i := by simp [someP]; omega
def someR (k : Nat) (l : List Int) : Rw := newR k (someP k l (min l.length 100))
set_option maxHeartbeats 4000000 in
theorem sp_some (h20 : F 20 = some A_xlaw01_some) (h10 : F 10 = some A_xlaw00_Place) (pr : Pk_rel F) {k : Nat} (hk1 : 1 ≤ k) (hk : k ≤ 12) (l : List Int) (t : Tok) : pureS F 20 [.i .i64 k, .sl (intsC l) l.length t] = some (.ptr (relC k (someR k l))) := by
  refine pure_of h20 ?_
  have hkk : 1 ≤ k * k ∧ k * k ≤ 144 := ⟨Nat.mul_le_mul hk1 hk1, Nat.mul_le_mul hk hk⟩
  have hw : IntKind.i64.wrap ((k : Int) * k) = ((k * k : Nat) : Int) := by
    have : (k : Int) * k = ((k * k : Nat) : Int) := by simp
    rw [this, i64_wrap (by omega) (by omega)]
  simp (disch := omega) only [A_xlaw01_some, W_skip, W_ext, W_ret, W_seq, thenQ_nrm, thenQ_ext, thenQ_ret, W_cond, selW_true, selW_false, W_blk, blkQ_nrm, blkQ_ret, blkQ_same, blkQ_ne, W_reg, nrmQ_is, WR_nil, WR_cons, selO_true, selO_false, bindO_some, loopQ_nrm, loopQ_ext, loopQ_ret, wanted_none, wanted_some, wantV_1, wantV_0, wantV_undef, ev_t, ev_c, put_some, put_none, upd_same, upd_ne, List.length_cons, List.length_nil, List.map_cons, List.map_nil, allow_no, allow_lt, argEnv_0, argEnv_1, argEnv_2, argEnv_3, argEnv_4, argEnv_5, res_1, res_2, retQ_nrm, retQ_ret, o_mv, o_pick, vPick_t, vPick_f, o_new, o_box, vBox_S, boxD_ok, vMap_some, vMapL_some, o_build, o_ld, vLd_ptr, vLd_S, ldS_ok, selB_true, o_st, vSt_S, stS_ok, stD_ok, o_nilck, vNil_ptr, vNil_mp, vNil_fn, o_bin, o_un, o_mkfn, o_fa, vFa_mp, vFa_S, faD_ok, o_fld, vFld_agg, o_ia, vIa_sl, vIa_ms, o_iaa, vIaa_ptr, vIaa_mp, o_len, vLen_sl, vLen_ms, o_mx, o_mn, vMx_i, vMn_i, o_ext, vExt_tup, b_add, b_sub, b_mul, b_lss, b_leq, b_gtr, b_geq, b_eql, b_neq, o_pure, List.nil_append, List.append_nil, List.cons_append, frz_d_i, frz_d_b, frz_d_s, frz_d_nilp, frz_d_ptr, frz_d_sl, frz_d_fn0, Bool.not_true, Bool.not_false, Bool.true_and, Bool.and_true, Bool.false_and, Bool.and_false, decide_true, decide_false, beq_self_eq_true, Bool.true_eq_false, Bool.false_eq_true, Nat.zero_add, Nat.add_zero, Int.toNat_natCast, ge_iff_le, gt_iff_lt, fill_S, fillD_ok, fill_nil, cellsOf_agg, cellsOf_i, cellsOf_b, cellsOf_s, cellsOf_ptr, cellsOf_nilp, cellsOf_sl, cellsOf_mp, cellsOf_fn, one_i, one_b, one_s, one_ptr, one_nilp, one_sl, one_mp, one_fn, List.all_cons, List.all_nil, splice_1, splice_2, splice_3, part_0, part_1, part_2, drop_0, g0_nx, g0_hp, List.set_cons_zero, List.set_cons_succ, List.length_append, List.length_replicate, Nat.reduceAdd, Nat.reduceMul, Nat.reduceSub, eq_self, true_and, and_true, vPure_S, purS_some, purD_some, purE_true, frzL_cons, frzL_nil, consO_ok, flat_i, flat_b, flat_s, flat_nilp, flat_ptr, flat_sl, flat_agg, flat_tup, vis_i, vis_b, vis_s, vis_nilp, vis_ptr, vis_sl, vis_fn0, List.flatMap_cons, List.flatMap_nil, isEmpty_nil, Bool.true_or, Bool.false_or, Bool.or_true, Bool.or_false, frz_P, frz_Q, frzP_cells, frzB_true, map_some', rd_S, o_bsl, vBsl_t, vBsl_f, o_app, appD_ok, vApp_rig, vApp_rig0, appK_ok, vApp_own, o_eqn, o_eqb, o_eqa, aeqn_pn, aeqn_np, aeqn_mn, aeqn_nn, aeqb_bb, negb_t, negb_f, aun_not, midQ_nrm]
  refine W_loop (fun m e g => ∃ i t', m = l.length - i ∧ i ≤ l.length ∧ i ≤ 100 ∧ e 0 = .i .i64 k ∧ e 1 = .sl (intsC l) l.length t ∧ e 6 = .i .i64 i ∧ e 5 = .sl (pairsC (someP k l i)) i t' ∧ Live g 2 t') l.length ?_ ?_
  · refine ⟨0, .rig, rfl, Nat.zero_le _, by omega, ?_⟩
    simp (disch := omega) only [W_skip, W_ext, W_ret, W_seq, thenQ_nrm, thenQ_ext, thenQ_ret, W_cond, selW_true, selW_false, W_blk, blkQ_nrm, blkQ_ret, blkQ_same, blkQ_ne, W_reg, nrmQ_is, WR_nil, WR_cons, selO_true, selO_false, bindO_some, loopQ_nrm, loopQ_ext, loopQ_ret, wanted_none, wanted_some, wantV_1, wantV_0, wantV_undef, ev_t, ev_c, put_some, put_none, upd_same, upd_ne, List.length_cons, List.length_nil, List.map_cons, List.map_nil, allow_no, allow_lt, argEnv_0, argEnv_1, argEnv_2, argEnv_3, argEnv_4, argEnv_5, res_1, res_2, retQ_nrm, retQ_ret, o_mv, o_pick, vPick_t, vPick_f, o_new, o_box, vBox_S, boxD_ok, vMap_some, vMapL_some, o_build, o_ld, vLd_ptr, vLd_S, ldS_ok, selB_true, o_st, vSt_S, stS_ok, stD_ok, o_nilck, vNil_ptr, vNil_mp, vNil_fn, o_bin, o_un, o_mkfn, o_fa, vFa_mp, vFa_S, faD_ok, o_fld, vFld_agg, o_ia, vIa_sl, vIa_ms, o_iaa, vIaa_ptr, vIaa_mp, o_len, vLen_sl, vLen_ms, o_mx, o_mn, vMx_i, vMn_i, o_ext, vExt_tup, b_add, b_sub, b_mul, b_lss, b_leq, b_gtr, b_geq, b_eql, b_neq, o_pure, List.nil_append, List.append_nil, List.cons_append, frz_d_i, frz_d_b, frz_d_s, frz_d_nilp, frz_d_ptr, frz_d_sl, frz_d_fn0, Bool.not_true, Bool.not_false, Bool.true_and, Bool.and_true, Bool.false_and, Bool.and_false, decide_true, decide_false, beq_self_eq_true, Bool.true_eq_false, Bool.false_eq_true, Nat.zero_add, Nat.add_zero, Int.toNat_natCast, ge_iff_le, gt_iff_lt, fill_S, fillD_ok, fill_nil, cellsOf_agg, cellsOf_i, cellsOf_b, cellsOf_s, cellsOf_ptr, cellsOf_nilp, cellsOf_sl, cellsOf_mp, cellsOf_fn, one_i, one_b, one_s, one_ptr, one_nilp, one_sl, one_mp, one_fn, List.all_cons, List.all_nil, splice_1, splice_2, splice_3, part_0, part_1, part_2, drop_0, g0_nx, g0_hp, List.set_cons_zero, List.set_cons_succ, List.length_append, List.length_replicate, Nat.reduceAdd, Nat.reduceMul, Nat.reduceSub, eq_self, true_and, and_true, vPure_S, purS_some, purD_some, purE_true, frzL_cons, frzL_nil, consO_ok, flat_i, flat_b, flat_s, flat_nilp, flat_ptr, flat_sl, flat_agg, flat_tup, vis_i, vis_b, vis_s, vis_nilp, vis_ptr, vis_sl, vis_fn0, List.flatMap_cons, List.flatMap_nil, isEmpty_nil, Bool.true_or, Bool.false_or, Bool.or_true, Bool.or_false, frz_P, frz_Q, frzP_cells, frzB_true, map_some', rd_S, o_bsl, vBsl_t, vBsl_f, o_app, appD_ok, vApp_rig, vApp_rig0, appK_ok, vApp_own, o_eqn, o_eqb, o_eqa, aeqn_pn, aeqn_np, aeqn_mn, aeqn_nn, aeqb_bb, negb_t, negb_f, aun_not, midQ_nrm]
    exact ⟨rfl, by rfl, .inl rfl⟩
  · rintro m e g ⟨i, t', rfl, hi, hi100, h0, h1, h6, h5, ht⟩
    have hws := succ_wrap (k := i) (by omega)
    by_cases hi' : i < l.length
    · have hi1 : (i : Int) < l.length := by omega
      by_cases hi2 : i < 100
      · have hi3 : (i : Int) < 100 := by omega
        have hp := ints_part hi'
        have hsucc := someP_succ (k := k) hi'
        have hlen := someP_len (k := k) hi
        generalize l.getD i 0 = v at hp hsucc
        have hpl := sp_place h10 (v := v) (n := ((k * k : Nat) : Int)) (by omega) (by omega)
        obtain ⟨q0, q1⟩ := place_lt (v := v) (n := ((k * k : Nat) : Int)) (by omega)
        unfold smP at hsucc
        generalize place v ((k * k : Nat) : Int) = q at hpl q0 q1 hsucc
        have hq : IntKind.i64.wrap (q.tdiv k) = q / k := by
          rw [Int.tdiv_eq_ediv_of_nonneg q0]
          have h1 : 0 ≤ q / k := Int.ediv_nonneg q0 (by omega)
          have h2 : q / k ≤ q := Int.ediv_le_self _ q0
          exact i64_wrap (by omega) (by omega)
        have hr : q.tmod k = q % k := Int.tmod_eq_emod_of_nonneg q0
        rcases ht with rfl | ⟨τ, rfl, hτ, hlt⟩
        · simp (disch := omega) only [W_skip, W_ext, W_ret, W_seq, thenQ_nrm, thenQ_ext, thenQ_ret, W_cond, selW_true, selW_false, W_blk, blkQ_nrm, blkQ_ret, blkQ_same, blkQ_ne, W_reg, nrmQ_is, WR_nil, WR_cons, selO_true, selO_false, bindO_some, loopQ_nrm, loopQ_ext, loopQ_ret, wanted_none, wanted_some, wantV_1, wantV_0, wantV_undef, ev_t, ev_c, put_some, put_none, upd_same, upd_ne, List.length_cons, List.length_nil, List.map_cons, List.map_nil, allow_no, allow_lt, argEnv_0, argEnv_1, argEnv_2, argEnv_3, argEnv_4, argEnv_5, res_1, res_2, retQ_nrm, retQ_ret, o_mv, o_pick, vPick_t, vPick_f, o_new, o_box, vBox_S, boxD_ok, vMap_some, vMapL_some, o_build, o_ld, vLd_ptr, vLd_S, ldS_ok, selB_true, o_st, vSt_S, stS_ok, stD_ok, o_nilck, vNil_ptr, vNil_mp, vNil_fn, o_bin, o_un, o_mkfn, o_fa, vFa_mp, vFa_S, faD_ok, o_fld, vFld_agg, o_ia, vIa_sl, vIa_ms, o_iaa, vIaa_ptr, vIaa_mp, o_len, vLen_sl, vLen_ms, o_mx, o_mn, vMx_i, vMn_i, o_ext, vExt_tup, b_add, b_sub, b_mul, b_lss, b_leq, b_gtr, b_geq, b_eql, b_neq, o_pure, List.nil_append, List.append_nil, List.cons_append, frz_d_i, frz_d_b, frz_d_s, frz_d_nilp, frz_d_ptr, frz_d_sl, frz_d_fn0, Bool.not_true, Bool.not_false, Bool.true_and, Bool.and_true, Bool.false_and, Bool.and_false, decide_true, decide_false, beq_self_eq_true, Bool.true_eq_false, Bool.false_eq_true, Nat.zero_add, Nat.add_zero, Int.toNat_natCast, ge_iff_le, gt_iff_lt, fill_S, fillD_ok, fill_nil, cellsOf_agg, cellsOf_i, cellsOf_b, cellsOf_s, cellsOf_ptr, cellsOf_nilp, cellsOf_sl, cellsOf_mp, cellsOf_fn, one_i, one_b, one_s, one_ptr, one_nilp, one_sl, one_mp, one_fn, List.all_cons, List.all_nil, splice_1, splice_2, splice_3, part_0, part_1, part_2, drop_0, g0_nx, g0_hp, List.set_cons_zero, List.set_cons_succ, List.length_append, List.length_replicate, Nat.reduceAdd, Nat.reduceMul, Nat.reduceSub, eq_self, true_and, and_true, vPure_S, purS_some, purD_some, purE_true, frzL_cons, frzL_nil, consO_ok, flat_i, flat_b, flat_s, flat_nilp, flat_ptr, flat_sl, flat_agg, flat_tup, vis_i, vis_b, vis_s, vis_nilp, vis_ptr, vis_sl, vis_fn0, List.flatMap_cons, List.flatMap_nil, isEmpty_nil, Bool.true_or, Bool.false_or, Bool.or_true, Bool.or_false, frz_P, frz_Q, frzP_cells, frzB_true, map_some', rd_S, o_bsl, vBsl_t, vBsl_f, o_app, appD_ok, vApp_rig, vApp_rig0, appK_ok, vApp_own, o_eqn, o_eqb, o_eqa, aeqn_pn, aeqn_np, aeqn_mn, aeqn_nn, aeqb_bb, negb_t, negb_f, aun_not, midQ_nrm, h0, h1, h5, h6, hi1, hi3, hp, hw, hpl, b_quo, b_rem, hq, hr, hws, pairsC_len, hlen]
          refine ⟨l.length - (i + 1), by omega, i + 1, ?_⟩
          rw [hsucc, pairsC_app, pairsC_one]
          exact ⟨_, rfl, by omega, by omega, rfl, rfl, .inr ⟨_, rfl, upd_same _ _ _, by dsimp only; omega⟩⟩
        · simp (disch := omega) only [W_skip, W_ext, W_ret, W_seq, thenQ_nrm, thenQ_ext, thenQ_ret, W_cond, selW_true, selW_false, W_blk, blkQ_nrm, blkQ_ret, blkQ_same, blkQ_ne, W_reg, nrmQ_is, WR_nil, WR_cons, selO_true, selO_false, bindO_some, loopQ_nrm, loopQ_ext, loopQ_ret, wanted_none, wanted_some, wantV_1, wantV_0, wantV_undef, ev_t, ev_c, put_some, put_none, upd_same, upd_ne, List.length_cons, List.length_nil, List.map_cons, List.map_nil, allow_no, allow_lt, argEnv_0, argEnv_1, argEnv_2, argEnv_3, argEnv_4, argEnv_5, res_1, res_2, retQ_nrm, retQ_ret, o_mv, o_pick, vPick_t, vPick_f, o_new, o_box, vBox_S, boxD_ok, vMap_some, vMapL_some, o_build, o_ld, vLd_ptr, vLd_S, ldS_ok, selB_true, o_st, vSt_S, stS_ok, stD_ok, o_nilck, vNil_ptr, vNil_mp, vNil_fn, o_bin, o_un, o_mkfn, o_fa, vFa_mp, vFa_S, faD_ok, o_fld, vFld_agg, o_ia, vIa_sl, vIa_ms, o_iaa, vIaa_ptr, vIaa_mp, o_len, vLen_sl, vLen_ms, o_mx, o_mn, vMx_i, vMn_i, o_ext, vExt_tup, b_add, b_sub, b_mul, b_lss, b_leq, b_gtr, b_geq, b_eql, b_neq, o_pure, List.nil_append, List.append_nil, List.cons_append, frz_d_i, frz_d_b, frz_d_s, frz_d_nilp, frz_d_ptr, frz_d_sl, frz_d_fn0, Bool.not_true, Bool.not_false, Bool.true_and, Bool.and_true, Bool.false_and, Bool.and_false, decide_true, decide_false, beq_self_eq_true, Bool.true_eq_false, Bool.false_eq_true, Nat.zero_add, Nat.add_zero, Int.toNat_natCast, ge_iff_le, gt_iff_lt, fill_S, fillD_ok, fill_nil, cellsOf_agg, cellsOf_i, cellsOf_b, cellsOf_s, cellsOf_ptr, cellsOf_nilp, cellsOf_sl, cellsOf_mp, cellsOf_fn, one_i, one_b, one_s, one_ptr, one_nilp, one_sl, one_mp, one_fn, List.all_cons, List.all_nil, splice_1, splice_2, splice_3, part_0, part_1, part_2, drop_0, g0_nx, g0_hp, List.set_cons_zero, List.set_cons_succ, List.length_append, List.length_replicate, Nat.reduceAdd, Nat.reduceMul, Nat.reduceSub, eq_self, true_and, and_true, vPure_S, purS_some, purD_some, purE_true, frzL_cons, frzL_nil, consO_ok, flat_i, flat_b, flat_s, flat_nilp, flat_ptr, flat_sl, flat_agg, flat_tup, vis_i, vis_b, vis_s, vis_nilp, vis_ptr, vis_sl, vis_fn0, List.flatMap_cons, List.flatMap_nil, isEmpty_nil, Bool.true_or, Bool.false_or, Bool.or_true, Bool.or_false, frz_P, frz_Q, frzP_cells, frzB_true, map_some', rd_S, o_bsl, vBsl_t, vBsl_f, o_app, appD_ok, vApp_rig, vApp_rig0, appK_ok, vApp_own, o_eqn, o_eqb, o_eqa, aeqn_pn, aeqn_np, aeqn_mn, aeqn_nn, aeqb_bb, negb_t, negb_f, aun_not, midQ_nrm, h0, h1, h5, h6, hi1, hi3, hp, hw, hpl, b_quo, b_rem, hq, hr, hws, pairsC_len, hlen, hτ]
          refine ⟨l.length - (i + 1), by omega, i + 1, ?_⟩
          rw [hsucc, pairsC_app, pairsC_one]
          exact ⟨_, rfl, by omega, by omega, rfl, rfl, .inr ⟨_, rfl, upd_same _ _ _, by dsimp only; omega⟩⟩
      · have hi3 : ¬ (i : Int) < 100 := by omega
        have hmin : min l.length 100 = i := by omega
        have hlen := someP_len (k := k) hi
        have hnew := sp_new pr (k : Int) (someP k l i) .non (by omega)
        rw [hlen, show clamp (k : Int) = k by unfold clamp; omega] at hnew
        have hsR : someR k l = newR k (someP k l i) := by unfold someR; rw [hmin]
        simp (disch := omega) only [W_skip, W_ext, W_ret, W_seq, thenQ_nrm, thenQ_ext, thenQ_ret, W_cond, selW_true, selW_false, W_blk, blkQ_nrm, blkQ_ret, blkQ_same, blkQ_ne, W_reg, nrmQ_is, WR_nil, WR_cons, selO_true, selO_false, bindO_some, loopQ_nrm, loopQ_ext, loopQ_ret, wanted_none, wanted_some, wantV_1, wantV_0, wantV_undef, ev_t, ev_c, put_some, put_none, upd_same, upd_ne, List.length_cons, List.length_nil, List.map_cons, List.map_nil, allow_no, allow_lt, argEnv_0, argEnv_1, argEnv_2, argEnv_3, argEnv_4, argEnv_5, res_1, res_2, retQ_nrm, retQ_ret, o_mv, o_pick, vPick_t, vPick_f, o_new, o_box, vBox_S, boxD_ok, vMap_some, vMapL_some, o_build, o_ld, vLd_ptr, vLd_S, ldS_ok, selB_true, o_st, vSt_S, stS_ok, stD_ok, o_nilck, vNil_ptr, vNil_mp, vNil_fn, o_bin, o_un, o_mkfn, o_fa, vFa_mp, vFa_S, faD_ok, o_fld, vFld_agg, o_ia, vIa_sl, vIa_ms, o_iaa, vIaa_ptr, vIaa_mp, o_len, vLen_sl, vLen_ms, o_mx, o_mn, vMx_i, vMn_i, o_ext, vExt_tup, b_add, b_sub, b_mul, b_lss, b_leq, b_gtr, b_geq, b_eql, b_neq, o_pure, List.nil_append, List.append_nil, List.cons_append, frz_d_i, frz_d_b, frz_d_s, frz_d_nilp, frz_d_ptr, frz_d_sl, frz_d_fn0, Bool.not_true, Bool.not_false, Bool.true_and, Bool.and_true, Bool.false_and, Bool.and_false, decide_true, decide_false, beq_self_eq_true, Bool.true_eq_false, Bool.false_eq_true, Nat.zero_add, Nat.add_zero, Int.toNat_natCast, ge_iff_le, gt_iff_lt, fill_S, fillD_ok, fill_nil, cellsOf_agg, cellsOf_i, cellsOf_b, cellsOf_s, cellsOf_ptr, cellsOf_nilp, cellsOf_sl, cellsOf_mp, cellsOf_fn, one_i, one_b, one_s, one_ptr, one_nilp, one_sl, one_mp, one_fn, List.all_cons, List.all_nil, splice_1, splice_2, splice_3, part_0, part_1, part_2, drop_0, g0_nx, g0_hp, List.set_cons_zero, List.set_cons_succ, List.length_append, List.length_replicate, Nat.reduceAdd, Nat.reduceMul, Nat.reduceSub, eq_self, true_and, and_true, vPure_S, purS_some, purD_some, purE_true, frzL_cons, frzL_nil, consO_ok, flat_i, flat_b, flat_s, flat_nilp, flat_ptr, flat_sl, flat_agg, flat_tup, vis_i, vis_b, vis_s, vis_nilp, vis_ptr, vis_sl, vis_fn0, List.flatMap_cons, List.flatMap_nil, isEmpty_nil, Bool.true_or, Bool.false_or, Bool.or_true, Bool.or_false, frz_P, frz_Q, frzP_cells, frzB_true, map_some', rd_S, o_bsl, vBsl_t, vBsl_f, o_app, appD_ok, vApp_rig, vApp_rig0, appK_ok, vApp_own, o_eqn, o_eqb, o_eqa, aeqn_pn, aeqn_np, aeqn_mn, aeqn_nn, aeqb_bb, negb_t, negb_f, aun_not, midQ_nrm, h0, h1, h5, h6, hi1, hi3, hnew]
        rw [hsR]
    · have hi1 : ¬ (i : Int) < l.length := by omega
      have hmin : min l.length 100 = i := by omega
      have hlen := someP_len (k := k) hi
      have hnew := sp_new pr (k : Int) (someP k l i) .non (by omega)
      rw [hlen, show clamp (k : Int) = k by unfold clamp; omega] at hnew
      have hsR : someR k l = newR k (someP k l i) := by unfold someR; rw [hmin]
      simp (disch := omega) only [W_skip, W_ext, W_ret, W_seq, thenQ_nrm, thenQ_ext, thenQ_ret, W_cond, selW_true, selW_false, W_blk, blkQ_nrm, blkQ_ret, blkQ_same, blkQ_ne, W_reg, nrmQ_is, WR_nil, WR_cons, selO_true, selO_false, bindO_some, loopQ_nrm, loopQ_ext, loopQ_ret, wanted_none, wanted_some, wantV_1, wantV_0, wantV_undef, ev_t, ev_c, put_some, put_none, upd_same, upd_ne, List.length_cons, List.length_nil, List.map_cons, List.map_nil, allow_no, allow_lt, argEnv_0, argEnv_1, argEnv_2, argEnv_3, argEnv_4, argEnv_5, res_1, res_2, retQ_nrm, retQ_ret, o_mv, o_pick, vPick_t, vPick_f, o_new, o_box, vBox_S, boxD_ok, vMap_some, vMapL_some, o_build, o_ld, vLd_ptr, vLd_S, ldS_ok, selB_true, o_st, vSt_S, stS_ok, stD_ok, o_nilck, vNil_ptr, vNil_mp, vNil_fn, o_bin, o_un, o_mkfn, o_fa, vFa_mp, vFa_S, faD_ok, o_fld, vFld_agg, o_ia, vIa_sl, vIa_ms, o_iaa, vIaa_ptr, vIaa_mp, o_len, vLen_sl, vLen_ms, o_mx, o_mn, vMx_i, vMn_i, o_ext, vExt_tup, b_add, b_sub, b_mul, b_lss, b_leq, b_gtr, b_geq, b_eql, b_neq, o_pure, List.nil_append, List.append_nil, List.cons_append, frz_d_i, frz_d_b, frz_d_s, frz_d_nilp, frz_d_ptr, frz_d_sl, frz_d_fn0, Bool.not_true, Bool.not_false, Bool.true_and, Bool.and_true, Bool.false_and, Bool.and_false, decide_true, decide_false, beq_self_eq_true, Bool.true_eq_false, Bool.false_eq_true, Nat.zero_add, Nat.add_zero, Int.toNat_natCast, ge_iff_le, gt_iff_lt, fill_S, fillD_ok, fill_nil, cellsOf_agg, cellsOf_i, cellsOf_b, cellsOf_s, cellsOf_ptr, cellsOf_nilp, cellsOf_sl, cellsOf_mp, cellsOf_fn, one_i, one_b, one_s, one_ptr, one_nilp, one_sl, one_mp, one_fn, List.all_cons, List.all_nil, splice_1, splice_2, splice_3, part_0, part_1, part_2, drop_0, g0_nx, g0_hp, List.set_cons_zero, List.set_cons_succ, List.length_append, List.length_replicate, Nat.reduceAdd, Nat.reduceMul, Nat.reduceSub, eq_self, true_and, and_true, vPure_S, purS_some, purD_some, purE_true, frzL_cons, frzL_nil, consO_ok, flat_i, flat_b, flat_s, flat_nilp, flat_ptr, flat_sl, flat_agg, flat_tup, vis_i, vis_b, vis_s, vis_nilp, vis_ptr, vis_sl, vis_fn0, List.flatMap_cons, List.flatMap_nil, isEmpty_nil, Bool.true_or, Bool.false_or, Bool.or_true, Bool.or_false, frz_P, frz_Q, frzP_cells, frzB_true, map_some', rd_S, o_bsl, vBsl_t, vBsl_f, o_app, appD_ok, vApp_rig, vApp_rig0, appK_ok, vApp_own, o_eqn, o_eqb, o_eqa, aeqn_pn, aeqn_np, aeqn_mn, aeqn_nn, aeqb_bb, negb_t, negb_f, aun_not, midQ_nrm, h0, h1, h5, h6, hi1, hnew]
      rw [hsR]

theorem sp_is (h21 : F 21 = some A_xlaw01_RelAlgebra_1) (pr : Pk_rel F) {k : Nat} (hk : k ≤ 40) {R S : Rw} (hR : Wf k R) (hS : Wf k S) (h : ∀ a b, hb R a b = true ↔ hb S a b = true) : pureS F 21 [.ptr (relC k R), .ptr (relC k S)] = some (.b true) := by
  refine pure_of h21 ?_
  have e1 : noneR (lessR R S) = true := (in_iff hk hR).2 fun a b => (h a b).1
  have e2 : noneR (lessR S R) = true := (in_iff hk hS).2 fun a b => (h a b).2
  simp (disch := omega) only [A_xlaw01_RelAlgebra_1, W_skip, W_ext, W_ret, W_seq, thenQ_nrm, thenQ_ext, thenQ_ret, W_cond, selW_true, selW_false, W_blk, blkQ_nrm, blkQ_ret, blkQ_same, blkQ_ne, W_reg, nrmQ_is, WR_nil, WR_cons, selO_true, selO_false, bindO_some, loopQ_nrm, loopQ_ext, loopQ_ret, wanted_none, wanted_some, wantV_1, wantV_0, wantV_undef, ev_t, ev_c, put_some, put_none, upd_same, upd_ne, List.length_cons, List.length_nil, List.map_cons, List.map_nil, allow_no, allow_lt, argEnv_0, argEnv_1, argEnv_2, argEnv_3, argEnv_4, argEnv_5, res_1, res_2, retQ_nrm, retQ_ret, o_mv, o_pick, vPick_t, vPick_f, o_new, o_box, vBox_S, boxD_ok, vMap_some, vMapL_some, o_build, o_ld, vLd_ptr, vLd_S, ldS_ok, selB_true, o_st, vSt_S, stS_ok, stD_ok, o_nilck, vNil_ptr, vNil_mp, vNil_fn, o_bin, o_un, o_mkfn, o_fa, vFa_mp, vFa_S, faD_ok, o_fld, vFld_agg, o_ia, vIa_sl, vIa_ms, o_iaa, vIaa_ptr, vIaa_mp, o_len, vLen_sl, vLen_ms, o_mx, o_mn, vMx_i, vMn_i, o_ext, vExt_tup, b_add, b_sub, b_mul, b_lss, b_leq, b_gtr, b_geq, b_eql, b_neq, o_pure, List.nil_append, List.append_nil, List.cons_append, frz_d_i, frz_d_b, frz_d_s, frz_d_nilp, frz_d_ptr, frz_d_sl, frz_d_fn0, Bool.not_true, Bool.not_false, Bool.true_and, Bool.and_true, Bool.false_and, Bool.and_false, decide_true, decide_false, beq_self_eq_true, Bool.true_eq_false, Bool.false_eq_true, Nat.zero_add, Nat.add_zero, Int.toNat_natCast, ge_iff_le, gt_iff_lt, fill_S, fillD_ok, fill_nil, cellsOf_agg, cellsOf_i, cellsOf_b, cellsOf_s, cellsOf_ptr, cellsOf_nilp, cellsOf_sl, cellsOf_mp, cellsOf_fn, one_i, one_b, one_s, one_ptr, one_nilp, one_sl, one_mp, one_fn, List.all_cons, List.all_nil, splice_1, splice_2, splice_3, part_0, part_1, part_2, drop_0, g0_nx, g0_hp, List.set_cons_zero, List.set_cons_succ, List.length_append, List.length_replicate, Nat.reduceAdd, Nat.reduceMul, Nat.reduceSub, eq_self, true_and, and_true, vPure_S, purS_some, purD_some, purE_true, frzL_cons, frzL_nil, consO_ok, flat_i, flat_b, flat_s, flat_nilp, flat_ptr, flat_sl, flat_agg, flat_tup, vis_i, vis_b, vis_s, vis_nilp, vis_ptr, vis_sl, vis_fn0, List.flatMap_cons, List.flatMap_nil, isEmpty_nil, Bool.true_or, Bool.false_or, Bool.or_true, Bool.or_false, frz_P, frz_Q, frzP_cells, frzB_true, map_some', rd_S, o_bsl, vBsl_t, vBsl_f, o_app, appD_ok, vApp_rig, vApp_rig0, appK_ok, vApp_own, o_eqn, o_eqb, o_eqa, aeqn_pn, aeqn_np, aeqn_mn, aeqn_nn, aeqb_bb, negb_t, negb_f, aun_not, midQ_nrm, sp_in pr hk hk, e1, e2]

theorem Steps'.mono {r s : Nat → Nat → Prop} (h : ∀ a b, r a b → s a b) {a b : Nat} (t : Steps' r a b) : Steps' s a b := by
  induction t with
  | one h' => exact .one (h _ _ h')
  | join _ _ i1 i2 => exact .join i1 i2
theorem Steps'.flip {r s : Nat → Nat → Prop} (h : ∀ a b, r a b → s b a) {a b : Nat} (t : Steps' r a b) : Steps' s b a := by
  induction t with
  | one h' => exact .one (h _ _ h')
  | join _ _ i1 i2 => exact .join i2 i1
theorem Steps'.again {r : Nat → Nat → Prop} {a b : Nat} (t : Steps' (Steps' r) a b) : Steps' r a b := by
  induction t with
  | one h => exact h
  | join _ _ i1 i2 => exact .join i1 i2
theorem Steps'.first {r : Nat → Nat → Prop} {a b : Nat} (t : Steps' r a b) : r a b ∨ ∃ c, r a c ∧ Steps' r c b := by
  induction t with
  | one h => exact .inl h
  | @join a c b t1 t2 i1 i2 =>
    rcases i1 with h | ⟨d, h1, h2⟩
    · exact .inr ⟨c, h, t2⟩
    · exact .inr ⟨d, h1, .join h2 t2⟩
theorem plus_plus {k : Nat} {R : Rw} (hR : Wf k R) (a b : Nat) : hb (plusR k (plusR k R)) a b = true ↔ hb (plusR k R) a b = true := by
  rw [hb_plus (wf_plus hR), hb_plus hR]
  constructor
  · intro t
    exact (t.mono fun a b h => (hb_plus hR a b).1 h).again
  · intro t; exact .one ((hb_plus hR a b).2 t)
theorem loops_plus {k : Nat} {R : Rw} (hR : Wf k R) : loopsR k (plusR k R) = loopsR k R := by
  rw [Bool.eq_iff_iff, loops_iff (wf_plus hR), loops_iff hR]
  constructor
  · rintro ⟨a, t⟩; exact ⟨a, (t.mono fun a b h => (hb_plus hR a b).1 h).again⟩
  · rintro ⟨a, t⟩; exact ⟨a, .one ((hb_plus hR a a).2 t)⟩
theorem loops_back {k : Nat} (hk : k ≤ 40) {R : Rw} (hR : Wf k R) : loopsR k (backR k R) = loopsR k R := by
  rw [Bool.eq_iff_iff, loops_iff (wf_back hk), loops_iff hR]
  have e : ∀ a b, hb (backR k R) a b = true ↔ hb R b a = true := fun a b => by rw [hb_back hk, hN_wf hR]
  constructor
  · rintro ⟨a, t⟩; exact ⟨a, t.flip fun a b h => (e a b).1 h⟩
  · rintro ⟨a, t⟩; exact ⟨a, t.flip fun a b h => (e b a).2 h⟩

set_option maxRecDepth 100000 in
set_option maxHeartbeats 4000000 in
theorem sp_relAlgebra (h2 : F 2 = some A_xlaw01_RelAlgebra) (h21 : F 21 = some A_xlaw01_RelAlgebra_1) (h20 : F 20 = some A_xlaw01_some) (h19 : F 19 = some A_xlaw01_awake) (h10 : F 10 = some A_xlaw00_Place) (pr : Pk_rel F)
    (n : Int) (a b c : List Int) (ta tb tc : Tok) : pureS F 2 [.i .i64 n, .sl (intsC a) a.length ta, .sl (intsC b) b.length tb, .sl (intsC c) c.length tc] = some (.b true) := by
  refine pure_of h2 ?_
  obtain ⟨hp0, hp1⟩ := place_lt (v := n) (n := 12) (by omega)
  have hpl := sp_place h10 (v := n) (n := 12) (by omega) (by omega)
  generalize place n 12 = q at hp0 hp1 hpl
  obtain ⟨k, hK, hK1, hK2⟩ : ∃ k : Nat, 1 + q = k ∧ 1 ≤ k ∧ k ≤ 12 := ⟨(1 + q).toNat, by omega, by omega, by omega⟩
  have hKw : IntKind.i64.wrap (1 + q) = k := by rw [i64_wrap (by omega) (by omega)]; exact hK
  have hk : k ≤ 40 := by omega
  have sa := sp_some h20 h10 pr hK1 hK2 a .non
  have sb := sp_some h20 h10 pr hK1 hK2 b .non
  have sc := sp_some h20 h10 pr hK1 hK2 c .non
  have wR : Wf k (someR k a) := wf_new hk _
  have wS : Wf k (someR k b) := wf_new hk _
  have wT : Wf k (someR k c) := wf_new hk _
  generalize someR k a = R at sa wR
  generalize someR k b = S at sb wS
  generalize someR k c = T at sc wT
  have wRS := wf_then wR wS
  have wST := wf_then wS wT
  have wRT := wf_then wR wT
  have wP := wf_plus wR
  have wbR : Wf k (backR k R) := wf_back hk
  have wbS : Wf k (backR k S) := wf_back hk
  have bk : ∀ {X : Rw}, Wf k X → ∀ a b, hb (backR k X) a b = hb X b a := fun hX a b => by rw [hb_back hk, hN_wf hX]
  have t1 := sp_is h21 pr hk (wf_then wRS wT) (wf_then wR wST) fun a b => by
    rw [hb_then wRS, hb_then wR]
    constructor
    · rintro ⟨c, h1, h2⟩
      obtain ⟨d, h3, h4⟩ := (hb_then wR _ _).1 h1
      exact ⟨d, h3, (hb_then wS _ _).2 ⟨c, h4, h2⟩⟩
    · rintro ⟨d, h3, h1⟩
      obtain ⟨c, h4, h2⟩ := (hb_then wS _ _).1 h1
      exact ⟨c, (hb_then wR _ _).2 ⟨d, h3, h4⟩, h2⟩
  have t2 := sp_is h21 pr hk (wf_then wR (wf_or wS wT)) (wf_or wRS wRT) fun a b => by
    rw [hb_then wR, hb_or, Bool.or_eq_true, hb_then wR, hb_then wR]
    constructor
    · rintro ⟨c, h1, h2⟩
      rw [hb_or, Bool.or_eq_true] at h2
      exact h2.elim (fun h => .inl ⟨c, h1, h⟩) (fun h => .inr ⟨c, h1, h⟩)
    · rintro (⟨c, h1, h2⟩ | ⟨c, h1, h2⟩)
      · exact ⟨c, h1, by rw [hb_or, h2]; rfl⟩
      · exact ⟨c, h1, by rw [hb_or, h2, Bool.or_true]⟩
  have t3 := sp_is h21 pr hk (wf_back hk (R := thenR k R S)) (wf_then wbS wbR) fun a b => by
    rw [bk wRS, hb_then wR, hb_then wbS]
    constructor
    · rintro ⟨c, h1, h2⟩; exact ⟨c, by rw [bk wS]; exact h2, by rw [bk wR]; exact h1⟩
    · rintro ⟨c, h1, h2⟩; exact ⟨c, by rw [← bk wR]; exact h2, by rw [← bk wS]; exact h1⟩
  have t4 := sp_is h21 pr hk (wf_back hk (R := backR k R)) wR fun a b => by rw [bk wbR, bk wR]
  have t5 := sp_is h21 pr hk (wf_plus wP) wP fun a b => plus_plus wR a b
  have t6 := sp_is h21 pr hk wP (wf_or wR (wf_then wR wP)) fun a b => by
    rw [hb_or, Bool.or_eq_true, hb_then wR, hb_plus wR]
    constructor
    · intro t
      rcases t.first with h | ⟨c, h1, h2⟩
      · exact .inl h
      · exact .inr ⟨c, h1, (hb_plus wR _ _).2 h2⟩
    · rintro (h | ⟨c, h1, h2⟩)
      · exact .one h
      · exact .join (.one h1) ((hb_plus wR _ _).1 h2)
  have t7 := sp_is h21 pr hk (wf_and wR (S := S)) (wf_less wR (S := lessR R S)) fun a b => by
    rw [hb_and, hb_less, hb_less]
    cases hb R a b <;> cases hb S a b <;> simp
  have t8 := loops_plus wR
  have t9 := loops_back hk wR
  have aw := sp_awake h19 pr
  simp (disch := omega) only [A_xlaw01_RelAlgebra, W_skip, W_ext, W_ret, W_seq, thenQ_nrm, thenQ_ext, thenQ_ret, W_cond, selW_true, selW_false, W_blk, blkQ_nrm, blkQ_ret, blkQ_same, blkQ_ne, W_reg, nrmQ_is, WR_nil, WR_cons, selO_true, selO_false, bindO_some, loopQ_nrm, loopQ_ext, loopQ_ret, wanted_none, wanted_some, wantV_1, wantV_0, wantV_undef, ev_t, ev_c, put_some, put_none, upd_same, upd_ne, List.length_cons, List.length_nil, List.map_cons, List.map_nil, allow_no, allow_lt, argEnv_0, argEnv_1, argEnv_2, argEnv_3, argEnv_4, argEnv_5, res_1, res_2, retQ_nrm, retQ_ret, o_mv, o_pick, vPick_t, vPick_f, o_new, o_box, vBox_S, boxD_ok, vMap_some, vMapL_some, o_build, o_ld, vLd_ptr, vLd_S, ldS_ok, selB_true, o_st, vSt_S, stS_ok, stD_ok, o_nilck, vNil_ptr, vNil_mp, vNil_fn, o_bin, o_un, o_mkfn, o_fa, vFa_mp, vFa_S, faD_ok, o_fld, vFld_agg, o_ia, vIa_sl, vIa_ms, o_iaa, vIaa_ptr, vIaa_mp, o_len, vLen_sl, vLen_ms, o_mx, o_mn, vMx_i, vMn_i, o_ext, vExt_tup, b_add, b_sub, b_mul, b_lss, b_leq, b_gtr, b_geq, b_eql, b_neq, o_pure, List.nil_append, List.append_nil, List.cons_append, frz_d_i, frz_d_b, frz_d_s, frz_d_nilp, frz_d_ptr, frz_d_sl, frz_d_fn0, Bool.not_true, Bool.not_false, Bool.true_and, Bool.and_true, Bool.false_and, Bool.and_false, decide_true, decide_false, beq_self_eq_true, Bool.true_eq_false, Bool.false_eq_true, Nat.zero_add, Nat.add_zero, Int.toNat_natCast, ge_iff_le, gt_iff_lt, fill_S, fillD_ok, fill_nil, cellsOf_agg, cellsOf_i, cellsOf_b, cellsOf_s, cellsOf_ptr, cellsOf_nilp, cellsOf_sl, cellsOf_mp, cellsOf_fn, one_i, one_b, one_s, one_ptr, one_nilp, one_sl, one_mp, one_fn, List.all_cons, List.all_nil, splice_1, splice_2, splice_3, part_0, part_1, part_2, drop_0, g0_nx, g0_hp, List.set_cons_zero, List.set_cons_succ, List.length_append, List.length_replicate, Nat.reduceAdd, Nat.reduceMul, Nat.reduceSub, eq_self, true_and, and_true, vPure_S, purS_some, purD_some, purE_true, frzL_cons, frzL_nil, consO_ok, flat_i, flat_b, flat_s, flat_nilp, flat_ptr, flat_sl, flat_agg, flat_tup, vis_i, vis_b, vis_s, vis_nilp, vis_ptr, vis_sl, vis_fn0, List.flatMap_cons, List.flatMap_nil, isEmpty_nil, Bool.true_or, Bool.false_or, Bool.or_true, Bool.or_false, frz_P, frz_Q, frzP_cells, frzB_true, map_some', rd_S, o_bsl, vBsl_t, vBsl_f, o_app, appD_ok, vApp_rig, vApp_rig0, appK_ok, vApp_own, o_eqn, o_eqb, o_eqa, aeqn_pn, aeqn_np, aeqn_mn, aeqn_nn, aeqb_bb, negb_t, negb_f, aun_not, midQ_nrm, hpl, hKw, sa, sb, sc, sp_plus pr, sp_then pr, sp_or pr, sp_back pr, sp_and pr, sp_less pr, sp_loops pr, Nat.max_self, t1, t2, t3, t4, t5, t6, t7, t8, t9, aw]
end Go.Ab
