/- Place; the document's example. -/
import Derived.Test.YtfhinaopoffcnaaRelT
import Derived.Test.YtfhinaopoffcnaaA_xlaw00
import Derived.Test.YtfhinaopoffcnaaA_xlaw01
set_option linter.unusedVariables false
set_option linter.unusedSimpArgs false
namespace Go.Ab
variable {F : Funs}
theorem t1_neg (u n : Int) (e1 : u % n + n * (u / n) = u) : -u = (n - u % n) + n * (-(u / n) - 1) := by
  have e2 : n * (-(u / n) - 1) = -(n * (u / n)) - n := by rw [Int.mul_sub, Int.mul_neg, Int.mul_one]
  rw [e2]
  generalize n * (u / n) = c at *
  generalize u % n = b at *
  omega
theorem tmod_cases {v n : Int} (hn : 0 < n) : (if v.tmod n < 0 then v.tmod n + n else v.tmod n) = v % n := by
  have h2 := Int.emod_nonneg v (by omega : n ≠ 0)
  have h3 := Int.emod_lt_of_pos v hn
  by_cases hv : 0 ≤ v
  · rw [Int.tmod_eq_emod_of_nonneg hv, if_neg (by omega)]
  · obtain ⟨u, rfl⟩ : ∃ u, v = -u := ⟨-v, by omega⟩
    rw [Int.neg_tmod, Int.tmod_eq_emod_of_nonneg (by omega : 0 ≤ u)]
    have h4 := Int.emod_nonneg u (by omega : n ≠ 0)
    have h5 := Int.emod_lt_of_pos u hn
    have e1 := Int.emod_add_mul_ediv u n
    by_cases h6 : u % n = 0
    · rw [h6, Int.neg_zero, if_neg (by omega)]
      exact (Int.emod_eq_zero_of_dvd (Int.dvd_neg.2 (Int.dvd_of_emod_eq_zero h6))).symm
    · rw [if_pos (by omega)]
      have e3 : (-u) % n = n - u % n := by
        rw [t1_neg u n e1, Int.add_mul_emod_self_left, Int.emod_eq_of_lt (by omega) (by omega)]
      rw [e3]
      omega
theorem tmod_bound {v n : Int} (hn : 0 < n) : -n ≤ v.tmod n ∧ v.tmod n < n := by
  refine ⟨?_, Int.tmod_lt_of_pos v hn⟩
  have h1 := tmod_cases (v := v) hn
  have h2 := Int.emod_nonneg v (by omega : n ≠ 0)
  split at h1 <;> omega
def place (v n : Int) : Int := v % n
theorem place_lt {v n : Int} (hn : 0 < n) : 0 ≤ place v n ∧ place v n < n := ⟨Int.emod_nonneg v (by omega), Int.emod_lt_of_pos v hn⟩
theorem sp_place (h10 : F 10 = some A_xlaw00_Place) {v n : Int} (hn : 0 < n) (hb : n ≤ 4611686018427387904) : pureS F 10 [.i .i64 v, .i .i64 n] = some (.i .i64 (place v n)) := by
  refine pure_of h10 ?_
  have h1 := tmod_cases (v := v) hn
  obtain ⟨h2, h3⟩ := tmod_bound (v := v) hn
  unfold place
  by_cases h : v.tmod n < 0
  · have hw : IntKind.i64.wrap (v.tmod n + n) = v.tmod n + n := i64_wrap (by omega) (by omega)
    rw [if_pos h] at h1
    simp (disch := omega) only [A_xlaw00_Place, W_skip, W_ext, W_ret, W_seq, thenQ_nrm, thenQ_ext, thenQ_ret, W_cond, selW_true, selW_false, W_blk, blkQ_nrm, blkQ_ret, blkQ_same, blkQ_ne, W_reg, nrmQ_is, WR_nil, WR_cons, selO_true, selO_false, bindO_some, loopQ_nrm, loopQ_ext, loopQ_ret, wanted_none, wanted_some, wantV_1, wantV_0, wantV_undef, ev_t, ev_c, put_some, put_none, upd_same, upd_ne, List.length_cons, List.length_nil, List.map_cons, List.map_nil, allow_no, allow_lt, argEnv_0, argEnv_1, argEnv_2, argEnv_3, argEnv_4, argEnv_5, res_1, res_2, retQ_nrm, retQ_ret, o_mv, o_pick, vPick_t, vPick_f, o_new, o_box, vBox_S, boxD_ok, vMap_some, vMapL_some, o_build, o_ld, vLd_ptr, vLd_S, ldS_ok, selB_true, o_st, vSt_S, stS_ok, stD_ok, o_nilck, vNil_ptr, vNil_mp, vNil_fn, o_bin, o_un, o_mkfn, o_fa, vFa_mp, vFa_S, faD_ok, o_fld, vFld_agg, o_ia, vIa_sl, vIa_ms, o_iaa, vIaa_ptr, vIaa_mp, o_len, vLen_sl, vLen_ms, o_mx, o_mn, vMx_i, vMn_i, o_ext, vExt_tup, b_add, b_sub, b_mul, b_lss, b_leq, b_gtr, b_geq, b_eql, b_neq, o_pure, List.nil_append, List.append_nil, List.cons_append, frz_d_i, frz_d_b, frz_d_s, frz_d_nilp, frz_d_ptr, frz_d_sl, frz_d_fn0, Bool.not_true, Bool.not_false, Bool.true_and, Bool.and_true, Bool.false_and, Bool.and_false, decide_true, decide_false, beq_self_eq_true, Bool.true_eq_false, Bool.false_eq_true, Nat.zero_add, Nat.add_zero, Int.toNat_natCast, ge_iff_le, gt_iff_lt, fill_S, fillD_ok, fill_nil, cellsOf_agg, cellsOf_i, cellsOf_b, cellsOf_s, cellsOf_ptr, cellsOf_nilp, cellsOf_sl, cellsOf_mp, cellsOf_fn, one_i, one_b, one_s, one_ptr, one_nilp, one_sl, one_mp, one_fn, List.all_cons, List.all_nil, splice_1, splice_2, splice_3, part_0, part_1, part_2, drop_0, g0_nx, g0_hp, List.set_cons_zero, List.set_cons_succ, List.length_append, List.length_replicate, Nat.reduceAdd, Nat.reduceMul, Nat.reduceSub, eq_self, true_and, and_true, vPure_S, purS_some, purD_some, purE_true, frzL_cons, frzL_nil, consO_ok, flat_i, flat_b, flat_s, flat_nilp, flat_ptr, flat_sl, flat_agg, flat_tup, vis_i, vis_b, vis_s, vis_nilp, vis_ptr, vis_sl, vis_fn0, List.flatMap_cons, List.flatMap_nil, isEmpty_nil, Bool.true_or, Bool.false_or, Bool.or_true, Bool.or_false, frz_P, frz_Q, frzP_cells, frzB_true, map_some', rd_S, o_bsl, vBsl_t, vBsl_f, o_app, appD_ok, vApp_rig, vApp_rig0, appK_ok, vApp_own, o_eqn, o_eqb, o_eqa, aeqn_pn, aeqn_np, aeqn_mn, aeqn_nn, aeqb_bb, negb_t, negb_f, aun_not, midQ_nrm, b_rem, h, hw]
    rw [h1]
  · rw [if_neg h] at h1
    simp (disch := omega) only [A_xlaw00_Place, W_skip, W_ext, W_ret, W_seq, thenQ_nrm, thenQ_ext, thenQ_ret, W_cond, selW_true, selW_false, W_blk, blkQ_nrm, blkQ_ret, blkQ_same, blkQ_ne, W_reg, nrmQ_is, WR_nil, WR_cons, selO_true, selO_false, bindO_some, loopQ_nrm, loopQ_ext, loopQ_ret, wanted_none, wanted_some, wantV_1, wantV_0, wantV_undef, ev_t, ev_c, put_some, put_none, upd_same, upd_ne, List.length_cons, List.length_nil, List.map_cons, List.map_nil, allow_no, allow_lt, argEnv_0, argEnv_1, argEnv_2, argEnv_3, argEnv_4, argEnv_5, res_1, res_2, retQ_nrm, retQ_ret, o_mv, o_pick, vPick_t, vPick_f, o_new, o_box, vBox_S, boxD_ok, vMap_some, vMapL_some, o_build, o_ld, vLd_ptr, vLd_S, ldS_ok, selB_true, o_st, vSt_S, stS_ok, stD_ok, o_nilck, vNil_ptr, vNil_mp, vNil_fn, o_bin, o_un, o_mkfn, o_fa, vFa_mp, vFa_S, faD_ok, o_fld, vFld_agg, o_ia, vIa_sl, vIa_ms, o_iaa, vIaa_ptr, vIaa_mp, o_len, vLen_sl, vLen_ms, o_mx, o_mn, vMx_i, vMn_i, o_ext, vExt_tup, b_add, b_sub, b_mul, b_lss, b_leq, b_gtr, b_geq, b_eql, b_neq, o_pure, List.nil_append, List.append_nil, List.cons_append, frz_d_i, frz_d_b, frz_d_s, frz_d_nilp, frz_d_ptr, frz_d_sl, frz_d_fn0, Bool.not_true, Bool.not_false, Bool.true_and, Bool.and_true, Bool.false_and, Bool.and_false, decide_true, decide_false, beq_self_eq_true, Bool.true_eq_false, Bool.false_eq_true, Nat.zero_add, Nat.add_zero, Int.toNat_natCast, ge_iff_le, gt_iff_lt, fill_S, fillD_ok, fill_nil, cellsOf_agg, cellsOf_i, cellsOf_b, cellsOf_s, cellsOf_ptr, cellsOf_nilp, cellsOf_sl, cellsOf_mp, cellsOf_fn, one_i, one_b, one_s, one_ptr, one_nilp, one_sl, one_mp, one_fn, List.all_cons, List.all_nil, splice_1, splice_2, splice_3, part_0, part_1, part_2, drop_0, g0_nx, g0_hp, List.set_cons_zero, List.set_cons_succ, List.length_append, List.length_replicate, Nat.reduceAdd, Nat.reduceMul, Nat.reduceSub, eq_self, true_and, and_true, vPure_S, purS_some, purD_some, purE_true, frzL_cons, frzL_nil, consO_ok, flat_i, flat_b, flat_s, flat_nilp, flat_ptr, flat_sl, flat_agg, flat_tup, vis_i, vis_b, vis_s, vis_nilp, vis_ptr, vis_sl, vis_fn0, List.flatMap_cons, List.flatMap_nil, isEmpty_nil, Bool.true_or, Bool.false_or, Bool.or_true, Bool.or_false, frz_P, frz_Q, frzP_cells, frzB_true, map_some', rd_S, o_bsl, vBsl_t, vBsl_f, o_app, appD_ok, vApp_rig, vApp_rig0, appK_ok, vApp_own, o_eqn, o_eqb, o_eqa, aeqn_pn, aeqn_np, aeqn_mn, aeqn_nn, aeqb_bb, negb_t, negb_f, aun_not, midQ_nrm, b_rem, h]
    rw [h1]

set_option maxRecDepth 100000 in
theorem sp_awake (h19 : F 19 = some A_xlaw01_awake) (pr : Pk_rel F) : pureS F 19 [] = some (.b true) := by
  refine pure_of h19 ?_
  have n1 : pureS F 11 [.i .i64 2, .sl [.i .i64 0, .i .i64 1, .i .i64 1, .i .i64 0] 2 .non] = some (.ptr (relC 2 (newR 2 [(0, 1), (1, 0)]))) := sp_new pr 2 [(0, 1), (1, 0)] .non (by decide)
  have n2 : pureS F 11 [.i .i64 2, .sl [] 0 .non] = some (.ptr (relC 2 (newR 2 []))) := sp_new pr 2 [] .non (by decide)
  have s1 : ∀ a b : AV, splice (List.replicate 4 (AV.i .i64 0)) 0 [a, b] = [a, b, .i .i64 0, .i .i64 0] := fun _ _ => rfl
  have s2 : ∀ a b c d x y : AV, splice [a, b, x, y] 2 [c, d] = [a, b, c, d] := fun _ _ _ _ _ _ => rfl
  have l1 : loopsR 2 (newR 2 [(0, 1), (1, 0)]) = true := by decide +kernel
  have l2 : loopsR 2 (newR 2 []) = false := by decide +kernel
  have h1 : has 2 (newR 2 [(0, 1), (1, 0)]) 0 1 = true := by decide +kernel
  have p1 : (pairsR 2 (newR 2 [(0, 1), (1, 0)])).length = 2 := by decide +kernel
  have e2 : ((2 : Nat) : Int) = 2 := rfl
  simp (disch := omega) only [A_xlaw01_awake, W_skip, W_ext, W_ret, W_seq, thenQ_nrm, thenQ_ext, thenQ_ret, W_cond, selW_true, selW_false, W_blk, blkQ_nrm, blkQ_ret, blkQ_same, blkQ_ne, W_reg, nrmQ_is, WR_nil, WR_cons, selO_true, selO_false, bindO_some, loopQ_nrm, loopQ_ext, loopQ_ret, wanted_none, wanted_some, wantV_1, wantV_0, wantV_undef, ev_t, ev_c, put_some, put_none, upd_same, upd_ne, List.length_cons, List.length_nil, List.map_cons, List.map_nil, allow_no, allow_lt, argEnv_0, argEnv_1, argEnv_2, argEnv_3, argEnv_4, argEnv_5, res_1, res_2, retQ_nrm, retQ_ret, o_mv, o_pick, vPick_t, vPick_f, o_new, o_box, vBox_S, boxD_ok, vMap_some, vMapL_some, o_build, o_ld, vLd_ptr, vLd_S, ldS_ok, selB_true, o_st, vSt_S, stS_ok, stD_ok, o_nilck, vNil_ptr, vNil_mp, vNil_fn, o_bin, o_un, o_mkfn, o_fa, vFa_mp, vFa_S, faD_ok, o_fld, vFld_agg, o_ia, vIa_sl, vIa_ms, o_iaa, vIaa_ptr, vIaa_mp, o_len, vLen_sl, vLen_ms, o_mx, o_mn, vMx_i, vMn_i, o_ext, vExt_tup, b_add, b_sub, b_mul, b_lss, b_leq, b_gtr, b_geq, b_eql, b_neq, o_pure, List.nil_append, List.append_nil, List.cons_append, frz_d_i, frz_d_b, frz_d_s, frz_d_nilp, frz_d_ptr, frz_d_sl, frz_d_fn0, Bool.not_true, Bool.not_false, Bool.true_and, Bool.and_true, Bool.false_and, Bool.and_false, decide_true, decide_false, beq_self_eq_true, Bool.true_eq_false, Bool.false_eq_true, Nat.zero_add, Nat.add_zero, Int.toNat_natCast, ge_iff_le, gt_iff_lt, fill_S, fillD_ok, fill_nil, cellsOf_agg, cellsOf_i, cellsOf_b, cellsOf_s, cellsOf_ptr, cellsOf_nilp, cellsOf_sl, cellsOf_mp, cellsOf_fn, one_i, one_b, one_s, one_ptr, one_nilp, one_sl, one_mp, one_fn, List.all_cons, List.all_nil, splice_1, splice_2, splice_3, part_0, part_1, part_2, drop_0, g0_nx, g0_hp, List.set_cons_zero, List.set_cons_succ, List.length_append, List.length_replicate, Nat.reduceAdd, Nat.reduceMul, Nat.reduceSub, eq_self, true_and, and_true, vPure_S, purS_some, purD_some, purE_true, frzL_cons, frzL_nil, consO_ok, flat_i, flat_b, flat_s, flat_nilp, flat_ptr, flat_sl, flat_agg, flat_tup, vis_i, vis_b, vis_s, vis_nilp, vis_ptr, vis_sl, vis_fn0, List.flatMap_cons, List.flatMap_nil, isEmpty_nil, Bool.true_or, Bool.false_or, Bool.or_true, Bool.or_false, frz_P, frz_Q, frzP_cells, frzB_true, map_some', rd_S, o_bsl, vBsl_t, vBsl_f, o_app, appD_ok, vApp_rig, vApp_rig0, appK_ok, vApp_own, o_eqn, o_eqb, o_eqa, aeqn_pn, aeqn_np, aeqn_mn, aeqn_nn, aeqb_bb, negb_t, negb_f, aun_not, midQ_nrm, relC_n, relC_row, relC_row', relC_drop1, relC_len, rowsC_len, relC_one, relC_flat, cellsOf_U, one_U, frz_U, flat_U, vis_U, relC_set', u_shl, u_or, u_and, u_andNot, part_rel, splice_rel, part_rows, eqa_rows, s1, s2, n1, n2, sp_loops pr, sp_len pr, sp_has pr, sp_pairs pr, l1, l2, h1, p1, e2]
end Go.Ab
