/- EcoThreads: the abstract machine, its adequacy and the functions that the statement reaches, part 5; lemmas, no claim of its own. -/
import Derived.Test.YtfhinaopoffcnaaPEcoThreads4
section
/- graph.Po; eco.Loc. -/
set_option linter.unusedVariables false
set_option linter.unusedSimpArgs false
namespace Go.Ab
variable {F : Funs}
def poB (a b : Nat) (x y : Ev) : Bool := ((x.th == 0) && (y.th != 0)) || ((x.th == y.th) && ((x.th != 0) && decide (a < b)))
/-- The region that decides. -/
def poReg : ACode := match A_graph_Po.body with
  | .seq _ (.seq _ (.seq (.seq _ (.blk _ (.loop (.seq _ (.seq _ (.seq (.blk _ (.seq _ (.seq _ (.blk _ (.loop (.seq _ (.seq _ (.seq (.blk _ (.seq _ (.seq r _))) _)))))))) _)))))) _)) => r
  | _ => .skip
set_option maxRecDepth 100000 in
set_option maxHeartbeats 4000000 in
theorem po_reg {e : Env} {g : G} {a b i j : Nat} {x y : Ev} (h5 : e 5 = .mp i 0) (h7 : e 7 = .mp j 0) (h4 : e 4 = .i .i64 a) (h6 : e 6 = .i .i64 b) (hi : g.hp i = some (.cells (evC x) false)) (hj : g.hp j = some (.cells (evC y) false)) :
    W F poReg e g (midQ fun e' g' => e' 48 = .b (poB a b x y) ∧ (∀ t, t < 24 → e' t = e t) ∧ g' = ⟨g.hp, g.nx + 25⟩) := by
  have fin : ∀ {e' : Env}, (∀ t, t < 24 → e' t = e t) → True := fun _ => trivial
  unfold poB
  cases c1 : (x.th == 0) <;> cases c2 : (y.th != 0) <;> cases c3 : (x.th == y.th) <;> cases c4 : (x.th != 0) <;> cases c5 : decide ((a : Int) < b) <;>
    (have c5' : decide (a < b) = decide ((a : Int) < b) := by rw [decide_eq_decide]; omega) <;>
    rw [c5] at c5' <;>
    simp (disch := omega) only [poReg, A_graph_Po, W_skip, W_ext, W_ret, W_seq, thenQ_nrm, thenQ_ext, thenQ_ret, W_cond, selW_true, selW_false, W_blk, blkQ_nrm, blkQ_ret, blkQ_same, blkQ_ne, W_reg, nrmQ_is, WR_nil, WR_cons, selO_true, selO_false, bindO_some, loopQ_nrm, loopQ_ext, loopQ_ret, wanted_none, wanted_some, wantV_1, wantV_0, wantV_undef, ev_t, ev_c, put_some, put_none, upd_same, upd_ne, List.length_cons, List.length_nil, List.map_cons, List.map_nil, allow_no, allow_lt, argEnv_0, argEnv_1, argEnv_2, argEnv_3, argEnv_4, argEnv_5, res_1, res_2, retQ_nrm, retQ_ret, o_mv, o_pick, vPick_t, vPick_f, o_new, o_box, vBox_S, boxD_ok, vMap_some, vMapL_some, o_build, o_ld, vLd_ptr, vLd_S, ldS_ok, selB_true, o_st, vSt_S, stS_ok, stD_ok, o_nilck, vNil_ptr, vNil_mp, vNil_fn, o_bin, o_un, o_mkfn, o_fa, vFa_mp, vFa_S, faD_ok, o_fld, vFld_agg, o_ia, vIa_sl, vIa_ms, o_iaa, vIaa_ptr, vIaa_mp, o_len, vLen_sl, vLen_ms, o_mx, o_mn, vMx_i, vMn_i, o_ext, vExt_tup, b_add, b_sub, b_mul, b_lss, b_leq, b_gtr, b_geq, b_eql, b_neq, o_pure, List.nil_append, List.append_nil, List.cons_append, frz_d_i, frz_d_b, frz_d_s, frz_d_nilp, frz_d_ptr, frz_d_sl, frz_d_fn0, Bool.not_true, Bool.not_false, Bool.true_and, Bool.and_true, Bool.false_and, Bool.and_false, decide_true, decide_false, beq_self_eq_true, Bool.true_eq_false, Bool.false_eq_true, Nat.zero_add, Nat.add_zero, Int.toNat_natCast, ge_iff_le, gt_iff_lt, fill_S, fillD_ok, fill_nil, cellsOf_agg, cellsOf_i, cellsOf_b, cellsOf_s, cellsOf_ptr, cellsOf_nilp, cellsOf_sl, cellsOf_mp, cellsOf_fn, one_i, one_b, one_s, one_ptr, one_nilp, one_sl, one_mp, one_fn, List.all_cons, List.all_nil, splice_1, splice_2, splice_3, part_0, part_1, part_2, drop_0, g0_nx, g0_hp, List.set_cons_zero, List.set_cons_succ, List.length_append, List.length_replicate, Nat.reduceAdd, Nat.reduceMul, Nat.reduceSub, eq_self, true_and, and_true, vPure_S, purS_some, purD_some, purE_true, frzL_cons, frzL_nil, consO_ok, flat_i, flat_b, flat_s, flat_nilp, flat_ptr, flat_sl, flat_agg, flat_tup, vis_i, vis_b, vis_s, vis_nilp, vis_ptr, vis_sl, vis_fn0, List.flatMap_cons, List.flatMap_nil, isEmpty_nil, Bool.true_or, Bool.false_or, Bool.or_true, Bool.or_false, frz_P, frz_Q, frzP_cells, frzB_true, map_some', rd_S, o_bsl, vBsl_t, vBsl_f, o_app, appD_ok, vApp_rig, vApp_rig0, appK_ok, vApp_own, o_eqn, o_eqb, o_eqa, aeqn_pn, aeqn_np, aeqn_mn, aeqn_nn, aeqb_bb, negb_t, negb_f, aun_not, midQ_nrm, evC_len, evC_one, evC_flat, evC_all, ev_th, ev_kd, ev_md, ev_lc, ev_vl, ev_ex, grC_len, grC_one, grC_all, gr_locs, gr_evs, gr_rf, gr_co, gr_rmw, gr_data, gr_ctrl, gr_ctrli, frz_gr, frz_ev, vis_gr, vis_ev, splice_ev, evsC_len, coC_len, o_raw, vRaw_fn, res_0, retP_nrm, retP_ret, o_mget, vMget_S, mgS_map, o_mkmap, o_mput, vMput_S, mpS_map, mpO_none, part_22, h5, h7, h4, h6, hi, hj, c1, c2, c3, c4, c5, c5'] <;>
    (intro t ht; simp (disch := omega) only [upd_ne])
def A_graph_Po' : AFun := { res := [.t 2], body := (.seq (.reg false [{ dst := some 1, op := .box (.t 0) },
  { dst := some 2, op := .mv (.c (.nilp)) }])
 (.seq (.reg false [{ dst := some 3, op := .mv (.c (.sl [] 0 .rig)) }])
 (.seq (.seq (.reg false [{ dst := some 8, op := .fa 1 (.t 1) },
  { dst := some 9, op := .ld none (.t 8) },
  { dst := some 10, op := .len (.t 9) },
  { dst := some 11, op := .mv (.c (.i .i64 0)) }])
 (.blk 0 (.loop (.seq (.reg false [{ dst := some 12, op := .bin .lss (.t 11) (.t 10) }])
 (.seq (.cond (.t 12) .skip
 (.ext 0))
 (.seq (.blk 1 (.seq (.reg false [{ dst := some 13, op := .mv (.t 11) },
  { dst := some 14, op := .ia 6 (.t 9) (.t 11) },
  { dst := some 15, op := .ld (some 6) (.t 14) },
  { dst := some 5, op := .new (List.replicate 5 (.i .i64 0) ++ [.b false]) },
  { dst := some 4, op := .mv (.t 13) },
  { dst := none, op := .st 6 (.t 5) (.t 15) }])
 (.seq (.reg false [{ dst := some 16, op := .fa 1 (.t 1) },
  { dst := some 17, op := .ld none (.t 16) },
  { dst := some 18, op := .len (.t 17) },
  { dst := some 19, op := .mv (.c (.i .i64 0)) }])
 (.blk 2 (.loop (.seq (.reg false [{ dst := some 20, op := .bin .lss (.t 19) (.t 18) }])
 (.seq (.cond (.t 20) .skip
 (.ext 2))
 (.seq (.blk 3 (.seq (.reg false [{ dst := some 21, op := .mv (.t 19) },
  { dst := some 22, op := .ia 6 (.t 17) (.t 19) },
  { dst := some 23, op := .ld (some 6) (.t 22) },
  { dst := some 7, op := .new (List.replicate 5 (.i .i64 0) ++ [.b false]) },
  { dst := some 6, op := .mv (.t 21) },
  { dst := none, op := .st 6 (.t 7) (.t 23) }])
 (.seq poReg
 (.cond (.t 48) (.reg false [{ dst := some 49, op := .mv (.t 3) },
  { dst := some 50, op := .mv (.t 4) },
  { dst := some 51, op := .mv (.t 6) },
  { dst := some 52, op := .build ([.i .i64 0, .i .i64 0]) [(0, 1, .t 50), (1, 1, .t 51)] },
  { dst := some 53, op := .bsl true 1 ([.i .i64 0, .i .i64 0]) [(0, 2, .t 52)] },
  { dst := some 54, op := .app 2 16 (.t 49) (.t 53) },
  { dst := some 3, op := .mv (.t 54) }])
 .skip))))
 (.reg false [{ dst := some 55, op := .bin .add (.t 19) (.c (.i .i64 1)) },
  { dst := some 19, op := .mv (.t 55) }])))))))))
 (.reg false [{ dst := some 56, op := .bin .add (.t 11) (.c (.i .i64 1)) },
  { dst := some 11, op := .mv (.t 56) }])))))))
 (.seq (.reg false [{ dst := some 57, op := .ld (some 8) (.t 1) },
  { dst := some 58, op := .mv (.t 3) },
  { dst := some 59, op := .call .pure (.c (.fn 81 [] [])) [.t 57, .t 58] },
  { dst := some 2, op := .mv (.t 59) }])
 .ret)))) }
theorem po_eq : A_graph_Po = A_graph_Po' := rfl
def poRow (X : Gr) (k j : Nat) : List (Int × Int) := ((List.range j).filter fun (b : Nat) => poB k b (X.evs.getD k ev0) (X.evs.getD b ev0)).map fun (b : Nat) => ((k : Int), (b : Int))
def poK (X : Gr) (k : Nat) : List (Int × Int) := (List.range k).flatMap fun a => poRow X a X.evs.length
def poL (X : Gr) (k j : Nat) : List (Int × Int) := poK X k ++ poRow X k j
theorem poK_succ (X k) : poK X (k + 1) = poL X k X.evs.length := by simp [poK, poL, List.range_succ]
theorem poL_0 (X k) : poL X k 0 = poK X k := by simp [poL, poRow]
theorem poL_succ (X k j) : poL X k (j + 1) = if poB k j (X.evs.getD k ev0) (X.evs.getD j ev0) then poL X k j ++ [((k : Int), (j : Int))] else poL X k j := by
  unfold poL poRow
  rw [List.range_succ, List.filter_append, List.filter_cons]
  split <;> simp
set_option maxRecDepth 100000 in
set_option maxHeartbeats 4000000 in
theorem sp_Po (h60 : F 60 = some A_graph_Po) (h81 : F 81 = some A_graph_Of) (pr : Pk_rel F) {X : Gr} (hX : X.evs.length ≤ 1000) : pureS F 60 [.agg (grC X)] = some (.ptr (relC (nOf X) (newR (nOf X) (poK X X.evs.length)))) := by
  rw [po_eq] at h60
  refine pure_of h60 ?_
  simp (disch := omega) only [A_graph_Po', W_skip, W_ext, W_ret, W_seq, thenQ_nrm, thenQ_ext, thenQ_ret, W_cond, selW_true, selW_false, W_blk, blkQ_nrm, blkQ_ret, blkQ_same, blkQ_ne, W_reg, nrmQ_is, WR_nil, WR_cons, selO_true, selO_false, bindO_some, loopQ_nrm, loopQ_ext, loopQ_ret, wanted_none, wanted_some, wantV_1, wantV_0, wantV_undef, ev_t, ev_c, put_some, put_none, upd_same, upd_ne, List.length_cons, List.length_nil, List.map_cons, List.map_nil, allow_no, allow_lt, argEnv_0, argEnv_1, argEnv_2, argEnv_3, argEnv_4, argEnv_5, res_1, res_2, retQ_nrm, retQ_ret, o_mv, o_pick, vPick_t, vPick_f, o_new, o_box, vBox_S, boxD_ok, vMap_some, vMapL_some, o_build, o_ld, vLd_ptr, vLd_S, ldS_ok, selB_true, o_st, vSt_S, stS_ok, stD_ok, o_nilck, vNil_ptr, vNil_mp, vNil_fn, o_bin, o_un, o_mkfn, o_fa, vFa_mp, vFa_S, faD_ok, o_fld, vFld_agg, o_ia, vIa_sl, vIa_ms, o_iaa, vIaa_ptr, vIaa_mp, o_len, vLen_sl, vLen_ms, o_mx, o_mn, vMx_i, vMn_i, o_ext, vExt_tup, b_add, b_sub, b_mul, b_lss, b_leq, b_gtr, b_geq, b_eql, b_neq, o_pure, List.nil_append, List.append_nil, List.cons_append, frz_d_i, frz_d_b, frz_d_s, frz_d_nilp, frz_d_ptr, frz_d_sl, frz_d_fn0, Bool.not_true, Bool.not_false, Bool.true_and, Bool.and_true, Bool.false_and, Bool.and_false, decide_true, decide_false, beq_self_eq_true, Bool.true_eq_false, Bool.false_eq_true, Nat.zero_add, Nat.add_zero, Int.toNat_natCast, ge_iff_le, gt_iff_lt, fill_S, fillD_ok, fill_nil, cellsOf_agg, cellsOf_i, cellsOf_b, cellsOf_s, cellsOf_ptr, cellsOf_nilp, cellsOf_sl, cellsOf_mp, cellsOf_fn, one_i, one_b, one_s, one_ptr, one_nilp, one_sl, one_mp, one_fn, List.all_cons, List.all_nil, splice_1, splice_2, splice_3, part_0, part_1, part_2, drop_0, g0_nx, g0_hp, List.set_cons_zero, List.set_cons_succ, List.length_append, List.length_replicate, Nat.reduceAdd, Nat.reduceMul, Nat.reduceSub, eq_self, true_and, and_true, vPure_S, purS_some, purD_some, purE_true, frzL_cons, frzL_nil, consO_ok, flat_i, flat_b, flat_s, flat_nilp, flat_ptr, flat_sl, flat_agg, flat_tup, vis_i, vis_b, vis_s, vis_nilp, vis_ptr, vis_sl, vis_fn0, List.flatMap_cons, List.flatMap_nil, isEmpty_nil, Bool.true_or, Bool.false_or, Bool.or_true, Bool.or_false, frz_P, frz_Q, frzP_cells, frzB_true, map_some', rd_S, o_bsl, vBsl_t, vBsl_f, o_app, appD_ok, vApp_rig, vApp_rig0, appK_ok, vApp_own, o_eqn, o_eqb, o_eqa, aeqn_pn, aeqn_np, aeqn_mn, aeqn_nn, aeqb_bb, negb_t, negb_f, aun_not, midQ_nrm, evC_len, evC_one, evC_flat, evC_all, ev_th, ev_kd, ev_md, ev_lc, ev_vl, ev_ex, grC_len, grC_one, grC_all, gr_locs, gr_evs, gr_rf, gr_co, gr_rmw, gr_data, gr_ctrl, gr_ctrli, frz_gr, frz_ev, vis_gr, vis_ev, splice_ev, evsC_len, coC_len, o_raw, vRaw_fn, res_0, retP_nrm, retP_ret, o_mget, vMget_S, mgS_map, o_mkmap, o_mput, vMput_S, mpS_map, mpO_none, part_22]
  refine W_loop (fun q e g => ∃ k t, q = X.evs.length - k ∧ k ≤ X.evs.length ∧ e 1 = .mp 0 0 ∧ e 9 = .sl (evsC X.evs) X.evs.length .non ∧ e 10 = .i .i64 X.evs.length ∧ e 11 = .i .i64 k ∧ e 3 = .sl (pairsC (poK X k)) (poK X k).length t ∧ Live g 2 t ∧ (poK X k).length ≤ 1000 * k ∧ g.hp 0 = some (.cells (grC X) false) ∧ 0 < g.nx) X.evs.length ?_ ?_
  · refine ⟨0, .rig, rfl, Nat.zero_le _, ?_⟩
    simp (disch := omega) only [W_skip, W_ext, W_ret, W_seq, thenQ_nrm, thenQ_ext, thenQ_ret, W_cond, selW_true, selW_false, W_blk, blkQ_nrm, blkQ_ret, blkQ_same, blkQ_ne, W_reg, nrmQ_is, WR_nil, WR_cons, selO_true, selO_false, bindO_some, loopQ_nrm, loopQ_ext, loopQ_ret, wanted_none, wanted_some, wantV_1, wantV_0, wantV_undef, ev_t, ev_c, put_some, put_none, upd_same, upd_ne, List.length_cons, List.length_nil, List.map_cons, List.map_nil, allow_no, allow_lt, argEnv_0, argEnv_1, argEnv_2, argEnv_3, argEnv_4, argEnv_5, res_1, res_2, retQ_nrm, retQ_ret, o_mv, o_pick, vPick_t, vPick_f, o_new, o_box, vBox_S, boxD_ok, vMap_some, vMapL_some, o_build, o_ld, vLd_ptr, vLd_S, ldS_ok, selB_true, o_st, vSt_S, stS_ok, stD_ok, o_nilck, vNil_ptr, vNil_mp, vNil_fn, o_bin, o_un, o_mkfn, o_fa, vFa_mp, vFa_S, faD_ok, o_fld, vFld_agg, o_ia, vIa_sl, vIa_ms, o_iaa, vIaa_ptr, vIaa_mp, o_len, vLen_sl, vLen_ms, o_mx, o_mn, vMx_i, vMn_i, o_ext, vExt_tup, b_add, b_sub, b_mul, b_lss, b_leq, b_gtr, b_geq, b_eql, b_neq, o_pure, List.nil_append, List.append_nil, List.cons_append, frz_d_i, frz_d_b, frz_d_s, frz_d_nilp, frz_d_ptr, frz_d_sl, frz_d_fn0, Bool.not_true, Bool.not_false, Bool.true_and, Bool.and_true, Bool.false_and, Bool.and_false, decide_true, decide_false, beq_self_eq_true, Bool.true_eq_false, Bool.false_eq_true, Nat.zero_add, Nat.add_zero, Int.toNat_natCast, ge_iff_le, gt_iff_lt, fill_S, fillD_ok, fill_nil, cellsOf_agg, cellsOf_i, cellsOf_b, cellsOf_s, cellsOf_ptr, cellsOf_nilp, cellsOf_sl, cellsOf_mp, cellsOf_fn, one_i, one_b, one_s, one_ptr, one_nilp, one_sl, one_mp, one_fn, List.all_cons, List.all_nil, splice_1, splice_2, splice_3, part_0, part_1, part_2, drop_0, g0_nx, g0_hp, List.set_cons_zero, List.set_cons_succ, List.length_append, List.length_replicate, Nat.reduceAdd, Nat.reduceMul, Nat.reduceSub, eq_self, true_and, and_true, vPure_S, purS_some, purD_some, purE_true, frzL_cons, frzL_nil, consO_ok, flat_i, flat_b, flat_s, flat_nilp, flat_ptr, flat_sl, flat_agg, flat_tup, vis_i, vis_b, vis_s, vis_nilp, vis_ptr, vis_sl, vis_fn0, List.flatMap_cons, List.flatMap_nil, isEmpty_nil, Bool.true_or, Bool.false_or, Bool.or_true, Bool.or_false, frz_P, frz_Q, frzP_cells, frzB_true, map_some', rd_S, o_bsl, vBsl_t, vBsl_f, o_app, appD_ok, vApp_rig, vApp_rig0, appK_ok, vApp_own, o_eqn, o_eqb, o_eqa, aeqn_pn, aeqn_np, aeqn_mn, aeqn_nn, aeqb_bb, negb_t, negb_f, aun_not, midQ_nrm]
    exact ⟨rfl, rfl, .inl rfl, Nat.zero_le _, by first | omega | (dsimp only; omega)⟩
  · rintro q e g ⟨k, t, rfl, hk, e1, e9, e10, e11, e3, ht, hl, h0, hnx⟩
    by_cases hk' : k < X.evs.length
    · have hk1 : (k : Int) < X.evs.length := by omega
      have hwk := succ_wrap (k := k) (by omega)
      have hpk := ev_part hk'
      have n1 : 0 ≠ g.nx + 1 + 3 := by omega
      simp (disch := omega) only [W_skip, W_ext, W_ret, W_seq, thenQ_nrm, thenQ_ext, thenQ_ret, W_cond, selW_true, selW_false, W_blk, blkQ_nrm, blkQ_ret, blkQ_same, blkQ_ne, W_reg, nrmQ_is, WR_nil, WR_cons, selO_true, selO_false, bindO_some, loopQ_nrm, loopQ_ext, loopQ_ret, wanted_none, wanted_some, wantV_1, wantV_0, wantV_undef, ev_t, ev_c, put_some, put_none, upd_same, upd_ne, List.length_cons, List.length_nil, List.map_cons, List.map_nil, allow_no, allow_lt, argEnv_0, argEnv_1, argEnv_2, argEnv_3, argEnv_4, argEnv_5, res_1, res_2, retQ_nrm, retQ_ret, o_mv, o_pick, vPick_t, vPick_f, o_new, o_box, vBox_S, boxD_ok, vMap_some, vMapL_some, o_build, o_ld, vLd_ptr, vLd_S, ldS_ok, selB_true, o_st, vSt_S, stS_ok, stD_ok, o_nilck, vNil_ptr, vNil_mp, vNil_fn, o_bin, o_un, o_mkfn, o_fa, vFa_mp, vFa_S, faD_ok, o_fld, vFld_agg, o_ia, vIa_sl, vIa_ms, o_iaa, vIaa_ptr, vIaa_mp, o_len, vLen_sl, vLen_ms, o_mx, o_mn, vMx_i, vMn_i, o_ext, vExt_tup, b_add, b_sub, b_mul, b_lss, b_leq, b_gtr, b_geq, b_eql, b_neq, o_pure, List.nil_append, List.append_nil, List.cons_append, frz_d_i, frz_d_b, frz_d_s, frz_d_nilp, frz_d_ptr, frz_d_sl, frz_d_fn0, Bool.not_true, Bool.not_false, Bool.true_and, Bool.and_true, Bool.false_and, Bool.and_false, decide_true, decide_false, beq_self_eq_true, Bool.true_eq_false, Bool.false_eq_true, Nat.zero_add, Nat.add_zero, Int.toNat_natCast, ge_iff_le, gt_iff_lt, fill_S, fillD_ok, fill_nil, cellsOf_agg, cellsOf_i, cellsOf_b, cellsOf_s, cellsOf_ptr, cellsOf_nilp, cellsOf_sl, cellsOf_mp, cellsOf_fn, one_i, one_b, one_s, one_ptr, one_nilp, one_sl, one_mp, one_fn, List.all_cons, List.all_nil, splice_1, splice_2, splice_3, part_0, part_1, part_2, drop_0, g0_nx, g0_hp, List.set_cons_zero, List.set_cons_succ, List.length_append, List.length_replicate, Nat.reduceAdd, Nat.reduceMul, Nat.reduceSub, eq_self, true_and, and_true, vPure_S, purS_some, purD_some, purE_true, frzL_cons, frzL_nil, consO_ok, flat_i, flat_b, flat_s, flat_nilp, flat_ptr, flat_sl, flat_agg, flat_tup, vis_i, vis_b, vis_s, vis_nilp, vis_ptr, vis_sl, vis_fn0, List.flatMap_cons, List.flatMap_nil, isEmpty_nil, Bool.true_or, Bool.false_or, Bool.or_true, Bool.or_false, frz_P, frz_Q, frzP_cells, frzB_true, map_some', rd_S, o_bsl, vBsl_t, vBsl_f, o_app, appD_ok, vApp_rig, vApp_rig0, appK_ok, vApp_own, o_eqn, o_eqb, o_eqa, aeqn_pn, aeqn_np, aeqn_mn, aeqn_nn, aeqb_bb, negb_t, negb_f, aun_not, midQ_nrm, evC_len, evC_one, evC_flat, evC_all, ev_th, ev_kd, ev_md, ev_lc, ev_vl, ev_ex, grC_len, grC_one, grC_all, gr_locs, gr_evs, gr_rf, gr_co, gr_rmw, gr_data, gr_ctrl, gr_ctrli, frz_gr, frz_ev, vis_gr, vis_ev, splice_ev, evsC_len, coC_len, o_raw, vRaw_fn, res_0, retP_nrm, retP_ret, o_mget, vMget_S, mgS_map, o_mkmap, o_mput, vMput_S, mpS_map, mpO_none, part_22, e1, e9, e10, e11, e3, h0, hk1, hpk]
      refine W_loop (fun q e g2 => ∃ j t, q = X.evs.length - j ∧ j ≤ X.evs.length ∧ e 1 = .mp 0 0 ∧ e 9 = .sl (evsC X.evs) X.evs.length .non ∧ e 10 = .i .i64 X.evs.length ∧ e 11 = .i .i64 k ∧ e 4 = .i .i64 k ∧ e 5 = .mp (g.nx + 1 + 3) 0 ∧ e 17 = .sl (evsC X.evs) X.evs.length .non ∧ e 18 = .i .i64 X.evs.length ∧ e 19 = .i .i64 j ∧ e 3 = .sl (pairsC (poL X k j)) (poL X k j).length t ∧ Live g2 2 t ∧ (poL X k j).length ≤ 1000 * k + j ∧ g2.hp 0 = some (.cells (grC X) false) ∧ g2.hp (g.nx + 1 + 3) = some (.cells (evC (X.evs.getD k ev0)) false) ∧ g.nx + 1 + 3 < g2.nx) X.evs.length ?_ ?_
      · refine ⟨0, t, rfl, Nat.zero_le _, ?_⟩
        simp (disch := omega) only [W_skip, W_ext, W_ret, W_seq, thenQ_nrm, thenQ_ext, thenQ_ret, W_cond, selW_true, selW_false, W_blk, blkQ_nrm, blkQ_ret, blkQ_same, blkQ_ne, W_reg, nrmQ_is, WR_nil, WR_cons, selO_true, selO_false, bindO_some, loopQ_nrm, loopQ_ext, loopQ_ret, wanted_none, wanted_some, wantV_1, wantV_0, wantV_undef, ev_t, ev_c, put_some, put_none, upd_same, upd_ne, List.length_cons, List.length_nil, List.map_cons, List.map_nil, allow_no, allow_lt, argEnv_0, argEnv_1, argEnv_2, argEnv_3, argEnv_4, argEnv_5, res_1, res_2, retQ_nrm, retQ_ret, o_mv, o_pick, vPick_t, vPick_f, o_new, o_box, vBox_S, boxD_ok, vMap_some, vMapL_some, o_build, o_ld, vLd_ptr, vLd_S, ldS_ok, selB_true, o_st, vSt_S, stS_ok, stD_ok, o_nilck, vNil_ptr, vNil_mp, vNil_fn, o_bin, o_un, o_mkfn, o_fa, vFa_mp, vFa_S, faD_ok, o_fld, vFld_agg, o_ia, vIa_sl, vIa_ms, o_iaa, vIaa_ptr, vIaa_mp, o_len, vLen_sl, vLen_ms, o_mx, o_mn, vMx_i, vMn_i, o_ext, vExt_tup, b_add, b_sub, b_mul, b_lss, b_leq, b_gtr, b_geq, b_eql, b_neq, o_pure, List.nil_append, List.append_nil, List.cons_append, frz_d_i, frz_d_b, frz_d_s, frz_d_nilp, frz_d_ptr, frz_d_sl, frz_d_fn0, Bool.not_true, Bool.not_false, Bool.true_and, Bool.and_true, Bool.false_and, Bool.and_false, decide_true, decide_false, beq_self_eq_true, Bool.true_eq_false, Bool.false_eq_true, Nat.zero_add, Nat.add_zero, Int.toNat_natCast, ge_iff_le, gt_iff_lt, fill_S, fillD_ok, fill_nil, cellsOf_agg, cellsOf_i, cellsOf_b, cellsOf_s, cellsOf_ptr, cellsOf_nilp, cellsOf_sl, cellsOf_mp, cellsOf_fn, one_i, one_b, one_s, one_ptr, one_nilp, one_sl, one_mp, one_fn, List.all_cons, List.all_nil, splice_1, splice_2, splice_3, part_0, part_1, part_2, drop_0, g0_nx, g0_hp, List.set_cons_zero, List.set_cons_succ, List.length_append, List.length_replicate, Nat.reduceAdd, Nat.reduceMul, Nat.reduceSub, eq_self, true_and, and_true, vPure_S, purS_some, purD_some, purE_true, frzL_cons, frzL_nil, consO_ok, flat_i, flat_b, flat_s, flat_nilp, flat_ptr, flat_sl, flat_agg, flat_tup, vis_i, vis_b, vis_s, vis_nilp, vis_ptr, vis_sl, vis_fn0, List.flatMap_cons, List.flatMap_nil, isEmpty_nil, Bool.true_or, Bool.false_or, Bool.or_true, Bool.or_false, frz_P, frz_Q, frzP_cells, frzB_true, map_some', rd_S, o_bsl, vBsl_t, vBsl_f, o_app, appD_ok, vApp_rig, vApp_rig0, appK_ok, vApp_own, o_eqn, o_eqb, o_eqa, aeqn_pn, aeqn_np, aeqn_mn, aeqn_nn, aeqb_bb, negb_t, negb_f, aun_not, midQ_nrm, e1, e9, e10, e11, e3, h0, poL_0]
        refine ⟨rfl, ?_, by first | omega | (dsimp only; omega), by first | omega | (dsimp only; omega)⟩
        rcases ht with rfl | ⟨τ, rfl, hτ, hlt⟩
        · exact .inl rfl
        · exact .inr ⟨τ, rfl, by simp (disch := omega) only [upd_ne]; exact hτ, by first | omega | (dsimp only; omega)⟩
      · rintro q e g2 ⟨j, t, rfl, hj, e1, e9, e10, e11, e4, e5, e17, e18, e19, e3, ht, hl, h0, hc, hn2⟩
        by_cases hj' : j < X.evs.length
        · have hj1 : (j : Int) < X.evs.length := by omega
          have hwj := succ_wrap (k := j) (by omega)
          have hpj := ev_part hj'
          have hLs := poL_succ X k j
          simp (disch := omega) only [W_skip, W_ext, W_ret, W_seq, thenQ_nrm, thenQ_ext, thenQ_ret, W_cond, selW_true, selW_false, W_blk, blkQ_nrm, blkQ_ret, blkQ_same, blkQ_ne, W_reg, nrmQ_is, WR_nil, WR_cons, selO_true, selO_false, bindO_some, loopQ_nrm, loopQ_ext, loopQ_ret, wanted_none, wanted_some, wantV_1, wantV_0, wantV_undef, ev_t, ev_c, put_some, put_none, upd_same, upd_ne, List.length_cons, List.length_nil, List.map_cons, List.map_nil, allow_no, allow_lt, argEnv_0, argEnv_1, argEnv_2, argEnv_3, argEnv_4, argEnv_5, res_1, res_2, retQ_nrm, retQ_ret, o_mv, o_pick, vPick_t, vPick_f, o_new, o_box, vBox_S, boxD_ok, vMap_some, vMapL_some, o_build, o_ld, vLd_ptr, vLd_S, ldS_ok, selB_true, o_st, vSt_S, stS_ok, stD_ok, o_nilck, vNil_ptr, vNil_mp, vNil_fn, o_bin, o_un, o_mkfn, o_fa, vFa_mp, vFa_S, faD_ok, o_fld, vFld_agg, o_ia, vIa_sl, vIa_ms, o_iaa, vIaa_ptr, vIaa_mp, o_len, vLen_sl, vLen_ms, o_mx, o_mn, vMx_i, vMn_i, o_ext, vExt_tup, b_add, b_sub, b_mul, b_lss, b_leq, b_gtr, b_geq, b_eql, b_neq, o_pure, List.nil_append, List.append_nil, List.cons_append, frz_d_i, frz_d_b, frz_d_s, frz_d_nilp, frz_d_ptr, frz_d_sl, frz_d_fn0, Bool.not_true, Bool.not_false, Bool.true_and, Bool.and_true, Bool.false_and, Bool.and_false, decide_true, decide_false, beq_self_eq_true, Bool.true_eq_false, Bool.false_eq_true, Nat.zero_add, Nat.add_zero, Int.toNat_natCast, ge_iff_le, gt_iff_lt, fill_S, fillD_ok, fill_nil, cellsOf_agg, cellsOf_i, cellsOf_b, cellsOf_s, cellsOf_ptr, cellsOf_nilp, cellsOf_sl, cellsOf_mp, cellsOf_fn, one_i, one_b, one_s, one_ptr, one_nilp, one_sl, one_mp, one_fn, List.all_cons, List.all_nil, splice_1, splice_2, splice_3, part_0, part_1, part_2, drop_0, g0_nx, g0_hp, List.set_cons_zero, List.set_cons_succ, List.length_append, List.length_replicate, Nat.reduceAdd, Nat.reduceMul, Nat.reduceSub, eq_self, true_and, and_true, vPure_S, purS_some, purD_some, purE_true, frzL_cons, frzL_nil, consO_ok, flat_i, flat_b, flat_s, flat_nilp, flat_ptr, flat_sl, flat_agg, flat_tup, vis_i, vis_b, vis_s, vis_nilp, vis_ptr, vis_sl, vis_fn0, List.flatMap_cons, List.flatMap_nil, isEmpty_nil, Bool.true_or, Bool.false_or, Bool.or_true, Bool.or_false, frz_P, frz_Q, frzP_cells, frzB_true, map_some', rd_S, o_bsl, vBsl_t, vBsl_f, o_app, appD_ok, vApp_rig, vApp_rig0, appK_ok, vApp_own, o_eqn, o_eqb, o_eqa, aeqn_pn, aeqn_np, aeqn_mn, aeqn_nn, aeqb_bb, negb_t, negb_f, aun_not, midQ_nrm, evC_len, evC_one, evC_flat, evC_all, ev_th, ev_kd, ev_md, ev_lc, ev_vl, ev_ex, grC_len, grC_one, grC_all, gr_locs, gr_evs, gr_rf, gr_co, gr_rmw, gr_data, gr_ctrl, gr_ctrli, frz_gr, frz_ev, vis_gr, vis_ev, splice_ev, evsC_len, coC_len, o_raw, vRaw_fn, res_0, retP_nrm, retP_ret, o_mget, vMget_S, mgS_map, o_mkmap, o_mput, vMput_S, mpS_map, mpO_none, part_22, e1, e9, e10, e11, e4, e5, e17, e18, e19, e3, hj1, hpj]
          have m1 : g.nx + 1 + 3 ≠ g2.nx + 1 + 3 := by omega
          refine W_mono (po_reg (a := k) (b := j) (i := g.nx + 1 + 3) (j := g2.nx + 1 + 3) (x := X.evs.getD k ev0) (y := X.evs.getD j ev0) (by simp (disch := omega) only [upd_ne, e5]) (by simp (disch := omega) only [upd_ne, upd_same]) (by simp (disch := omega) only [upd_ne, e4]) (by simp (disch := omega) only [upd_ne, upd_same]) (by simp (disch := omega) only [upd_ne]; exact hc) (by simp (disch := omega) only [upd_same])) ?_
          intro o e' g' hm
          cases o with
          | ext n => exact hm.elim
          | ret => exact hm.elim
          | nrm =>
            obtain ⟨f48, hfr, rfl⟩ := hm
            have f1 := hfr 1 (by omega)
            have f3 := hfr 3 (by omega)
            have f4 := hfr 4 (by omega)
            have f5 := hfr 5 (by omega)
            have f6 := hfr 6 (by omega)
            have f9 := hfr 9 (by omega)
            have f10 := hfr 10 (by omega)
            have f11 := hfr 11 (by omega)
            have f17 := hfr 17 (by omega)
            have f18 := hfr 18 (by omega)
            have f19 := hfr 19 (by omega)
            simp (disch := omega) only [upd_ne, upd_same, e1, e3, e4, e5, e9, e10, e11, e17, e18, e19] at f1 f3 f4 f5 f6 f9 f10 f11 f17 f18 f19
            clear hfr
            cases hB : poB k j (X.evs.getD k ev0) (X.evs.getD j ev0) with
            | true =>
              rw [hB] at f48 hLs
              rw [if_pos rfl] at hLs
              rcases ht with rfl | ⟨τ, rfl, hτ, hlt⟩
              · simp (disch := omega) only [W_skip, W_ext, W_ret, W_seq, thenQ_nrm, thenQ_ext, thenQ_ret, W_cond, selW_true, selW_false, W_blk, blkQ_nrm, blkQ_ret, blkQ_same, blkQ_ne, W_reg, nrmQ_is, WR_nil, WR_cons, selO_true, selO_false, bindO_some, loopQ_nrm, loopQ_ext, loopQ_ret, wanted_none, wanted_some, wantV_1, wantV_0, wantV_undef, ev_t, ev_c, put_some, put_none, upd_same, upd_ne, List.length_cons, List.length_nil, List.map_cons, List.map_nil, allow_no, allow_lt, argEnv_0, argEnv_1, argEnv_2, argEnv_3, argEnv_4, argEnv_5, res_1, res_2, retQ_nrm, retQ_ret, o_mv, o_pick, vPick_t, vPick_f, o_new, o_box, vBox_S, boxD_ok, vMap_some, vMapL_some, o_build, o_ld, vLd_ptr, vLd_S, ldS_ok, selB_true, o_st, vSt_S, stS_ok, stD_ok, o_nilck, vNil_ptr, vNil_mp, vNil_fn, o_bin, o_un, o_mkfn, o_fa, vFa_mp, vFa_S, faD_ok, o_fld, vFld_agg, o_ia, vIa_sl, vIa_ms, o_iaa, vIaa_ptr, vIaa_mp, o_len, vLen_sl, vLen_ms, o_mx, o_mn, vMx_i, vMn_i, o_ext, vExt_tup, b_add, b_sub, b_mul, b_lss, b_leq, b_gtr, b_geq, b_eql, b_neq, o_pure, List.nil_append, List.append_nil, List.cons_append, frz_d_i, frz_d_b, frz_d_s, frz_d_nilp, frz_d_ptr, frz_d_sl, frz_d_fn0, Bool.not_true, Bool.not_false, Bool.true_and, Bool.and_true, Bool.false_and, Bool.and_false, decide_true, decide_false, beq_self_eq_true, Bool.true_eq_false, Bool.false_eq_true, Nat.zero_add, Nat.add_zero, Int.toNat_natCast, ge_iff_le, gt_iff_lt, fill_S, fillD_ok, fill_nil, cellsOf_agg, cellsOf_i, cellsOf_b, cellsOf_s, cellsOf_ptr, cellsOf_nilp, cellsOf_sl, cellsOf_mp, cellsOf_fn, one_i, one_b, one_s, one_ptr, one_nilp, one_sl, one_mp, one_fn, List.all_cons, List.all_nil, splice_1, splice_2, splice_3, part_0, part_1, part_2, drop_0, g0_nx, g0_hp, List.set_cons_zero, List.set_cons_succ, List.length_append, List.length_replicate, Nat.reduceAdd, Nat.reduceMul, Nat.reduceSub, eq_self, true_and, and_true, vPure_S, purS_some, purD_some, purE_true, frzL_cons, frzL_nil, consO_ok, flat_i, flat_b, flat_s, flat_nilp, flat_ptr, flat_sl, flat_agg, flat_tup, vis_i, vis_b, vis_s, vis_nilp, vis_ptr, vis_sl, vis_fn0, List.flatMap_cons, List.flatMap_nil, isEmpty_nil, Bool.true_or, Bool.false_or, Bool.or_true, Bool.or_false, frz_P, frz_Q, frzP_cells, frzB_true, map_some', rd_S, o_bsl, vBsl_t, vBsl_f, o_app, appD_ok, vApp_rig, vApp_rig0, appK_ok, vApp_own, o_eqn, o_eqb, o_eqa, aeqn_pn, aeqn_np, aeqn_mn, aeqn_nn, aeqb_bb, negb_t, negb_f, aun_not, midQ_nrm, evC_len, evC_one, evC_flat, evC_all, ev_th, ev_kd, ev_md, ev_lc, ev_vl, ev_ex, grC_len, grC_one, grC_all, gr_locs, gr_evs, gr_rf, gr_co, gr_rmw, gr_data, gr_ctrl, gr_ctrli, frz_gr, frz_ev, vis_gr, vis_ev, splice_ev, evsC_len, coC_len, o_raw, vRaw_fn, res_0, retP_nrm, retP_ret, o_mget, vMget_S, mgS_map, o_mkmap, o_mput, vMput_S, mpS_map, mpO_none, part_22, f1, f3, f4, f5, f6, f9, f10, f11, f17, f18, f19, f48, pairsC_len, hwj]
                refine ⟨X.evs.length - (j + 1), by omega, j + 1, ?_⟩
                rw [hLs, pairsC_app, pairsC_one, List.length_append]
                exact ⟨_, rfl, by omega, rfl, rfl, .inr ⟨_, rfl, upd_same _ _ _, by first | omega | (dsimp only; omega)⟩, by simp; omega, h0, hc, by first | omega | (dsimp only; omega)⟩
              · have n0 : τ ≠ 0 := fun h => by rw [h, h0] at hτ; cases hτ
                have nc : τ ≠ g.nx + 1 + 3 := fun h => by rw [h, hc] at hτ; cases hτ
                simp (disch := omega) only [W_skip, W_ext, W_ret, W_seq, thenQ_nrm, thenQ_ext, thenQ_ret, W_cond, selW_true, selW_false, W_blk, blkQ_nrm, blkQ_ret, blkQ_same, blkQ_ne, W_reg, nrmQ_is, WR_nil, WR_cons, selO_true, selO_false, bindO_some, loopQ_nrm, loopQ_ext, loopQ_ret, wanted_none, wanted_some, wantV_1, wantV_0, wantV_undef, ev_t, ev_c, put_some, put_none, upd_same, upd_ne, List.length_cons, List.length_nil, List.map_cons, List.map_nil, allow_no, allow_lt, argEnv_0, argEnv_1, argEnv_2, argEnv_3, argEnv_4, argEnv_5, res_1, res_2, retQ_nrm, retQ_ret, o_mv, o_pick, vPick_t, vPick_f, o_new, o_box, vBox_S, boxD_ok, vMap_some, vMapL_some, o_build, o_ld, vLd_ptr, vLd_S, ldS_ok, selB_true, o_st, vSt_S, stS_ok, stD_ok, o_nilck, vNil_ptr, vNil_mp, vNil_fn, o_bin, o_un, o_mkfn, o_fa, vFa_mp, vFa_S, faD_ok, o_fld, vFld_agg, o_ia, vIa_sl, vIa_ms, o_iaa, vIaa_ptr, vIaa_mp, o_len, vLen_sl, vLen_ms, o_mx, o_mn, vMx_i, vMn_i, o_ext, vExt_tup, b_add, b_sub, b_mul, b_lss, b_leq, b_gtr, b_geq, b_eql, b_neq, o_pure, List.nil_append, List.append_nil, List.cons_append, frz_d_i, frz_d_b, frz_d_s, frz_d_nilp, frz_d_ptr, frz_d_sl, frz_d_fn0, Bool.not_true, Bool.not_false, Bool.true_and, Bool.and_true, Bool.false_and, Bool.and_false, decide_true, decide_false, beq_self_eq_true, Bool.true_eq_false, Bool.false_eq_true, Nat.zero_add, Nat.add_zero, Int.toNat_natCast, ge_iff_le, gt_iff_lt, fill_S, fillD_ok, fill_nil, cellsOf_agg, cellsOf_i, cellsOf_b, cellsOf_s, cellsOf_ptr, cellsOf_nilp, cellsOf_sl, cellsOf_mp, cellsOf_fn, one_i, one_b, one_s, one_ptr, one_nilp, one_sl, one_mp, one_fn, List.all_cons, List.all_nil, splice_1, splice_2, splice_3, part_0, part_1, part_2, drop_0, g0_nx, g0_hp, List.set_cons_zero, List.set_cons_succ, List.length_append, List.length_replicate, Nat.reduceAdd, Nat.reduceMul, Nat.reduceSub, eq_self, true_and, and_true, vPure_S, purS_some, purD_some, purE_true, frzL_cons, frzL_nil, consO_ok, flat_i, flat_b, flat_s, flat_nilp, flat_ptr, flat_sl, flat_agg, flat_tup, vis_i, vis_b, vis_s, vis_nilp, vis_ptr, vis_sl, vis_fn0, List.flatMap_cons, List.flatMap_nil, isEmpty_nil, Bool.true_or, Bool.false_or, Bool.or_true, Bool.or_false, frz_P, frz_Q, frzP_cells, frzB_true, map_some', rd_S, o_bsl, vBsl_t, vBsl_f, o_app, appD_ok, vApp_rig, vApp_rig0, appK_ok, vApp_own, o_eqn, o_eqb, o_eqa, aeqn_pn, aeqn_np, aeqn_mn, aeqn_nn, aeqb_bb, negb_t, negb_f, aun_not, midQ_nrm, evC_len, evC_one, evC_flat, evC_all, ev_th, ev_kd, ev_md, ev_lc, ev_vl, ev_ex, grC_len, grC_one, grC_all, gr_locs, gr_evs, gr_rf, gr_co, gr_rmw, gr_data, gr_ctrl, gr_ctrli, frz_gr, frz_ev, vis_gr, vis_ev, splice_ev, evsC_len, coC_len, o_raw, vRaw_fn, res_0, retP_nrm, retP_ret, o_mget, vMget_S, mgS_map, o_mkmap, o_mput, vMput_S, mpS_map, mpO_none, part_22, f1, f3, f4, f5, f6, f9, f10, f11, f17, f18, f19, f48, pairsC_len, hwj, hτ]
                refine ⟨X.evs.length - (j + 1), by omega, j + 1, ?_⟩
                rw [hLs, pairsC_app, pairsC_one, List.length_append]
                exact ⟨_, rfl, by omega, rfl, rfl, .inr ⟨_, rfl, upd_same _ _ _, by first | omega | (dsimp only; omega)⟩, by simp; omega, h0, hc, by first | omega | (dsimp only; omega)⟩
            | false =>
              rw [hB] at f48 hLs
              rw [if_neg (by simp)] at hLs
              simp (disch := omega) only [W_skip, W_ext, W_ret, W_seq, thenQ_nrm, thenQ_ext, thenQ_ret, W_cond, selW_true, selW_false, W_blk, blkQ_nrm, blkQ_ret, blkQ_same, blkQ_ne, W_reg, nrmQ_is, WR_nil, WR_cons, selO_true, selO_false, bindO_some, loopQ_nrm, loopQ_ext, loopQ_ret, wanted_none, wanted_some, wantV_1, wantV_0, wantV_undef, ev_t, ev_c, put_some, put_none, upd_same, upd_ne, List.length_cons, List.length_nil, List.map_cons, List.map_nil, allow_no, allow_lt, argEnv_0, argEnv_1, argEnv_2, argEnv_3, argEnv_4, argEnv_5, res_1, res_2, retQ_nrm, retQ_ret, o_mv, o_pick, vPick_t, vPick_f, o_new, o_box, vBox_S, boxD_ok, vMap_some, vMapL_some, o_build, o_ld, vLd_ptr, vLd_S, ldS_ok, selB_true, o_st, vSt_S, stS_ok, stD_ok, o_nilck, vNil_ptr, vNil_mp, vNil_fn, o_bin, o_un, o_mkfn, o_fa, vFa_mp, vFa_S, faD_ok, o_fld, vFld_agg, o_ia, vIa_sl, vIa_ms, o_iaa, vIaa_ptr, vIaa_mp, o_len, vLen_sl, vLen_ms, o_mx, o_mn, vMx_i, vMn_i, o_ext, vExt_tup, b_add, b_sub, b_mul, b_lss, b_leq, b_gtr, b_geq, b_eql, b_neq, o_pure, List.nil_append, List.append_nil, List.cons_append, frz_d_i, frz_d_b, frz_d_s, frz_d_nilp, frz_d_ptr, frz_d_sl, frz_d_fn0, Bool.not_true, Bool.not_false, Bool.true_and, Bool.and_true, Bool.false_and, Bool.and_false, decide_true, decide_false, beq_self_eq_true, Bool.true_eq_false, Bool.false_eq_true, Nat.zero_add, Nat.add_zero, Int.toNat_natCast, ge_iff_le, gt_iff_lt, fill_S, fillD_ok, fill_nil, cellsOf_agg, cellsOf_i, cellsOf_b, cellsOf_s, cellsOf_ptr, cellsOf_nilp, cellsOf_sl, cellsOf_mp, cellsOf_fn, one_i, one_b, one_s, one_ptr, one_nilp, one_sl, one_mp, one_fn, List.all_cons, List.all_nil, splice_1, splice_2, splice_3, part_0, part_1, part_2, drop_0, g0_nx, g0_hp, List.set_cons_zero, List.set_cons_succ, List.length_append, List.length_replicate, Nat.reduceAdd, Nat.reduceMul, Nat.reduceSub, eq_self, true_and, and_true, vPure_S, purS_some, purD_some, purE_true, frzL_cons, frzL_nil, consO_ok, flat_i, flat_b, flat_s, flat_nilp, flat_ptr, flat_sl, flat_agg, flat_tup, vis_i, vis_b, vis_s, vis_nilp, vis_ptr, vis_sl, vis_fn0, List.flatMap_cons, List.flatMap_nil, isEmpty_nil, Bool.true_or, Bool.false_or, Bool.or_true, Bool.or_false, frz_P, frz_Q, frzP_cells, frzB_true, map_some', rd_S, o_bsl, vBsl_t, vBsl_f, o_app, appD_ok, vApp_rig, vApp_rig0, appK_ok, vApp_own, o_eqn, o_eqb, o_eqa, aeqn_pn, aeqn_np, aeqn_mn, aeqn_nn, aeqb_bb, negb_t, negb_f, aun_not, midQ_nrm, evC_len, evC_one, evC_flat, evC_all, ev_th, ev_kd, ev_md, ev_lc, ev_vl, ev_ex, grC_len, grC_one, grC_all, gr_locs, gr_evs, gr_rf, gr_co, gr_rmw, gr_data, gr_ctrl, gr_ctrli, frz_gr, frz_ev, vis_gr, vis_ev, splice_ev, evsC_len, coC_len, o_raw, vRaw_fn, res_0, retP_nrm, retP_ret, o_mget, vMget_S, mgS_map, o_mkmap, o_mput, vMput_S, mpS_map, mpO_none, part_22, f1, f3, f4, f5, f6, f9, f10, f11, f17, f18, f19, f48, hwj]
              refine ⟨X.evs.length - (j + 1), by omega, j + 1, t, rfl, by omega, rfl, ?_⟩
              rw [hLs]
              refine ⟨rfl, ?_, by omega, by first | exact h0 | (simp (disch := omega) only [upd_ne]; exact h0), by first | exact hc | (simp (disch := omega) only [upd_ne]; exact hc), by first | omega | (dsimp only; omega)⟩
              rcases ht with rfl | ⟨τ, rfl, hτ, hlt⟩
              · exact .inl rfl
              · exact .inr ⟨τ, rfl, by simp (disch := omega) only [upd_ne]; exact hτ, by first | omega | (dsimp only; omega)⟩
        · obtain rfl : j = X.evs.length := by omega
          have hj1 : ¬ ((X.evs.length : Int) < X.evs.length) := by omega
          rw [← poK_succ] at e3 hl
          simp (disch := omega) only [W_skip, W_ext, W_ret, W_seq, thenQ_nrm, thenQ_ext, thenQ_ret, W_cond, selW_true, selW_false, W_blk, blkQ_nrm, blkQ_ret, blkQ_same, blkQ_ne, W_reg, nrmQ_is, WR_nil, WR_cons, selO_true, selO_false, bindO_some, loopQ_nrm, loopQ_ext, loopQ_ret, wanted_none, wanted_some, wantV_1, wantV_0, wantV_undef, ev_t, ev_c, put_some, put_none, upd_same, upd_ne, List.length_cons, List.length_nil, List.map_cons, List.map_nil, allow_no, allow_lt, argEnv_0, argEnv_1, argEnv_2, argEnv_3, argEnv_4, argEnv_5, res_1, res_2, retQ_nrm, retQ_ret, o_mv, o_pick, vPick_t, vPick_f, o_new, o_box, vBox_S, boxD_ok, vMap_some, vMapL_some, o_build, o_ld, vLd_ptr, vLd_S, ldS_ok, selB_true, o_st, vSt_S, stS_ok, stD_ok, o_nilck, vNil_ptr, vNil_mp, vNil_fn, o_bin, o_un, o_mkfn, o_fa, vFa_mp, vFa_S, faD_ok, o_fld, vFld_agg, o_ia, vIa_sl, vIa_ms, o_iaa, vIaa_ptr, vIaa_mp, o_len, vLen_sl, vLen_ms, o_mx, o_mn, vMx_i, vMn_i, o_ext, vExt_tup, b_add, b_sub, b_mul, b_lss, b_leq, b_gtr, b_geq, b_eql, b_neq, o_pure, List.nil_append, List.append_nil, List.cons_append, frz_d_i, frz_d_b, frz_d_s, frz_d_nilp, frz_d_ptr, frz_d_sl, frz_d_fn0, Bool.not_true, Bool.not_false, Bool.true_and, Bool.and_true, Bool.false_and, Bool.and_false, decide_true, decide_false, beq_self_eq_true, Bool.true_eq_false, Bool.false_eq_true, Nat.zero_add, Nat.add_zero, Int.toNat_natCast, ge_iff_le, gt_iff_lt, fill_S, fillD_ok, fill_nil, cellsOf_agg, cellsOf_i, cellsOf_b, cellsOf_s, cellsOf_ptr, cellsOf_nilp, cellsOf_sl, cellsOf_mp, cellsOf_fn, one_i, one_b, one_s, one_ptr, one_nilp, one_sl, one_mp, one_fn, List.all_cons, List.all_nil, splice_1, splice_2, splice_3, part_0, part_1, part_2, drop_0, g0_nx, g0_hp, List.set_cons_zero, List.set_cons_succ, List.length_append, List.length_replicate, Nat.reduceAdd, Nat.reduceMul, Nat.reduceSub, eq_self, true_and, and_true, vPure_S, purS_some, purD_some, purE_true, frzL_cons, frzL_nil, consO_ok, flat_i, flat_b, flat_s, flat_nilp, flat_ptr, flat_sl, flat_agg, flat_tup, vis_i, vis_b, vis_s, vis_nilp, vis_ptr, vis_sl, vis_fn0, List.flatMap_cons, List.flatMap_nil, isEmpty_nil, Bool.true_or, Bool.false_or, Bool.or_true, Bool.or_false, frz_P, frz_Q, frzP_cells, frzB_true, map_some', rd_S, o_bsl, vBsl_t, vBsl_f, o_app, appD_ok, vApp_rig, vApp_rig0, appK_ok, vApp_own, o_eqn, o_eqb, o_eqa, aeqn_pn, aeqn_np, aeqn_mn, aeqn_nn, aeqb_bb, negb_t, negb_f, aun_not, midQ_nrm, evC_len, evC_one, evC_flat, evC_all, ev_th, ev_kd, ev_md, ev_lc, ev_vl, ev_ex, grC_len, grC_one, grC_all, gr_locs, gr_evs, gr_rf, gr_co, gr_rmw, gr_data, gr_ctrl, gr_ctrli, frz_gr, frz_ev, vis_gr, vis_ev, splice_ev, evsC_len, coC_len, o_raw, vRaw_fn, res_0, retP_nrm, retP_ret, o_mget, vMget_S, mgS_map, o_mkmap, o_mput, vMput_S, mpS_map, mpO_none, part_22, e1, e9, e10, e11, e4, e5, e17, e18, e19, e3, hj1, hwk]
          refine ⟨X.evs.length - (k + 1), by omega, k + 1, t, rfl, by omega, rfl, rfl, ?_, by omega, h0, by first | omega | (dsimp only; omega)⟩
          rcases ht with rfl | ⟨τ, rfl, hτ, hlt⟩
          · exact .inl rfl
          · exact .inr ⟨τ, rfl, hτ, by first | omega | (dsimp only; omega)⟩
    · obtain rfl : k = X.evs.length := by omega
      have hk1 : ¬ ((X.evs.length : Int) < X.evs.length) := by omega
      have hof := sp_of h81 pr X (poK X X.evs.length) .non (by omega)
      simp (disch := omega) only [W_skip, W_ext, W_ret, W_seq, thenQ_nrm, thenQ_ext, thenQ_ret, W_cond, selW_true, selW_false, W_blk, blkQ_nrm, blkQ_ret, blkQ_same, blkQ_ne, W_reg, nrmQ_is, WR_nil, WR_cons, selO_true, selO_false, bindO_some, loopQ_nrm, loopQ_ext, loopQ_ret, wanted_none, wanted_some, wantV_1, wantV_0, wantV_undef, ev_t, ev_c, put_some, put_none, upd_same, upd_ne, List.length_cons, List.length_nil, List.map_cons, List.map_nil, allow_no, allow_lt, argEnv_0, argEnv_1, argEnv_2, argEnv_3, argEnv_4, argEnv_5, res_1, res_2, retQ_nrm, retQ_ret, o_mv, o_pick, vPick_t, vPick_f, o_new, o_box, vBox_S, boxD_ok, vMap_some, vMapL_some, o_build, o_ld, vLd_ptr, vLd_S, ldS_ok, selB_true, o_st, vSt_S, stS_ok, stD_ok, o_nilck, vNil_ptr, vNil_mp, vNil_fn, o_bin, o_un, o_mkfn, o_fa, vFa_mp, vFa_S, faD_ok, o_fld, vFld_agg, o_ia, vIa_sl, vIa_ms, o_iaa, vIaa_ptr, vIaa_mp, o_len, vLen_sl, vLen_ms, o_mx, o_mn, vMx_i, vMn_i, o_ext, vExt_tup, b_add, b_sub, b_mul, b_lss, b_leq, b_gtr, b_geq, b_eql, b_neq, o_pure, List.nil_append, List.append_nil, List.cons_append, frz_d_i, frz_d_b, frz_d_s, frz_d_nilp, frz_d_ptr, frz_d_sl, frz_d_fn0, Bool.not_true, Bool.not_false, Bool.true_and, Bool.and_true, Bool.false_and, Bool.and_false, decide_true, decide_false, beq_self_eq_true, Bool.true_eq_false, Bool.false_eq_true, Nat.zero_add, Nat.add_zero, Int.toNat_natCast, ge_iff_le, gt_iff_lt, fill_S, fillD_ok, fill_nil, cellsOf_agg, cellsOf_i, cellsOf_b, cellsOf_s, cellsOf_ptr, cellsOf_nilp, cellsOf_sl, cellsOf_mp, cellsOf_fn, one_i, one_b, one_s, one_ptr, one_nilp, one_sl, one_mp, one_fn, List.all_cons, List.all_nil, splice_1, splice_2, splice_3, part_0, part_1, part_2, drop_0, g0_nx, g0_hp, List.set_cons_zero, List.set_cons_succ, List.length_append, List.length_replicate, Nat.reduceAdd, Nat.reduceMul, Nat.reduceSub, eq_self, true_and, and_true, vPure_S, purS_some, purD_some, purE_true, frzL_cons, frzL_nil, consO_ok, flat_i, flat_b, flat_s, flat_nilp, flat_ptr, flat_sl, flat_agg, flat_tup, vis_i, vis_b, vis_s, vis_nilp, vis_ptr, vis_sl, vis_fn0, List.flatMap_cons, List.flatMap_nil, isEmpty_nil, Bool.true_or, Bool.false_or, Bool.or_true, Bool.or_false, frz_P, frz_Q, frzP_cells, frzB_true, map_some', rd_S, o_bsl, vBsl_t, vBsl_f, o_app, appD_ok, vApp_rig, vApp_rig0, appK_ok, vApp_own, o_eqn, o_eqb, o_eqa, aeqn_pn, aeqn_np, aeqn_mn, aeqn_nn, aeqb_bb, negb_t, negb_f, aun_not, midQ_nrm, evC_len, evC_one, evC_flat, evC_all, ev_th, ev_kd, ev_md, ev_lc, ev_vl, ev_ex, grC_len, grC_one, grC_all, gr_locs, gr_evs, gr_rf, gr_co, gr_rmw, gr_data, gr_ctrl, gr_ctrli, frz_gr, frz_ev, vis_gr, vis_ev, splice_ev, evsC_len, coC_len, o_raw, vRaw_fn, res_0, retP_nrm, retP_ret, o_mget, vMget_S, mgS_map, o_mkmap, o_mput, vMput_S, mpS_map, mpO_none, part_22, e1, e9, e10, e11, e3, h0, hk1, hof]
      rfl
theorem poRow_mem {X : Gr} {k j : Nat} {p : Int × Int} : p ∈ poRow X k j ↔ ∃ b : Nat, b < j ∧ poB k b (X.evs.getD k ev0) (X.evs.getD b ev0) = true ∧ p = ((k : Int), (b : Int)) := by
  unfold poRow
  simp only [List.mem_map, List.mem_filter, List.mem_range]
  constructor
  · rintro ⟨b, ⟨h1, h2⟩, rfl⟩; exact ⟨b, h1, h2, rfl⟩
  · rintro ⟨b, h1, h2, rfl⟩; exact ⟨b, ⟨h1, h2⟩, rfl⟩
def poR (X : Gr) : Rw := newR (nOf X) (poK X X.evs.length)
set_option maxRecDepth 100000 in
theorem sp_Loc (pe : Pk_eco F) (h60 : F 60 = some A_graph_Po) (h81 : F 81 = some A_graph_Of) (pr : Pk_rel F) {X : Gr} (hX : X.evs.length ≤ 1000) : pureS F 41 [.agg (grC X)] = some (.ptr (relC (nOf X) (partR locP X (nOf X) (poR X)))) := by
  refine pure_of pe.eco_Loc ?_
  have h1 := sp_Po h60 h81 pr hX
  have h := sp_someE pe h81 pr (X := X) (nOf_le X) (poR X) (sp_61 pe.eco_Loc_1)
  unfold poR at h
  simp (disch := omega) only [A_eco_Loc, W_skip, W_ext, W_ret, W_seq, thenQ_nrm, thenQ_ext, thenQ_ret, W_cond, selW_true, selW_false, W_blk, blkQ_nrm, blkQ_ret, blkQ_same, blkQ_ne, W_reg, nrmQ_is, WR_nil, WR_cons, selO_true, selO_false, bindO_some, loopQ_nrm, loopQ_ext, loopQ_ret, wanted_none, wanted_some, wantV_1, wantV_0, wantV_undef, ev_t, ev_c, put_some, put_none, upd_same, upd_ne, List.length_cons, List.length_nil, List.map_cons, List.map_nil, allow_no, allow_lt, argEnv_0, argEnv_1, argEnv_2, argEnv_3, argEnv_4, argEnv_5, res_1, res_2, retQ_nrm, retQ_ret, o_mv, o_pick, vPick_t, vPick_f, o_new, o_box, vBox_S, boxD_ok, vMap_some, vMapL_some, o_build, o_ld, vLd_ptr, vLd_S, ldS_ok, selB_true, o_st, vSt_S, stS_ok, stD_ok, o_nilck, vNil_ptr, vNil_mp, vNil_fn, o_bin, o_un, o_mkfn, o_fa, vFa_mp, vFa_S, faD_ok, o_fld, vFld_agg, o_ia, vIa_sl, vIa_ms, o_iaa, vIaa_ptr, vIaa_mp, o_len, vLen_sl, vLen_ms, o_mx, o_mn, vMx_i, vMn_i, o_ext, vExt_tup, b_add, b_sub, b_mul, b_lss, b_leq, b_gtr, b_geq, b_eql, b_neq, o_pure, List.nil_append, List.append_nil, List.cons_append, frz_d_i, frz_d_b, frz_d_s, frz_d_nilp, frz_d_ptr, frz_d_sl, frz_d_fn0, Bool.not_true, Bool.not_false, Bool.true_and, Bool.and_true, Bool.false_and, Bool.and_false, decide_true, decide_false, beq_self_eq_true, Bool.true_eq_false, Bool.false_eq_true, Nat.zero_add, Nat.add_zero, Int.toNat_natCast, ge_iff_le, gt_iff_lt, fill_S, fillD_ok, fill_nil, cellsOf_agg, cellsOf_i, cellsOf_b, cellsOf_s, cellsOf_ptr, cellsOf_nilp, cellsOf_sl, cellsOf_mp, cellsOf_fn, one_i, one_b, one_s, one_ptr, one_nilp, one_sl, one_mp, one_fn, List.all_cons, List.all_nil, splice_1, splice_2, splice_3, part_0, part_1, part_2, drop_0, g0_nx, g0_hp, List.set_cons_zero, List.set_cons_succ, List.length_append, List.length_replicate, Nat.reduceAdd, Nat.reduceMul, Nat.reduceSub, eq_self, true_and, and_true, vPure_S, purS_some, purD_some, purE_true, frzL_cons, frzL_nil, consO_ok, flat_i, flat_b, flat_s, flat_nilp, flat_ptr, flat_sl, flat_agg, flat_tup, vis_i, vis_b, vis_s, vis_nilp, vis_ptr, vis_sl, vis_fn0, List.flatMap_cons, List.flatMap_nil, isEmpty_nil, Bool.true_or, Bool.false_or, Bool.or_true, Bool.or_false, frz_P, frz_Q, frzP_cells, frzB_true, map_some', rd_S, o_bsl, vBsl_t, vBsl_f, o_app, appD_ok, vApp_rig, vApp_rig0, appK_ok, vApp_own, o_eqn, o_eqb, o_eqa, aeqn_pn, aeqn_np, aeqn_mn, aeqn_nn, aeqb_bb, negb_t, negb_f, aun_not, midQ_nrm, evC_len, evC_one, evC_flat, evC_all, ev_th, ev_kd, ev_md, ev_lc, ev_vl, ev_ex, grC_len, grC_one, grC_all, gr_locs, gr_evs, gr_rf, gr_co, gr_rmw, gr_data, gr_ctrl, gr_ctrli, frz_gr, frz_ev, vis_gr, vis_ev, splice_ev, evsC_len, coC_len, o_raw, vRaw_fn, res_0, retP_nrm, retP_ret, o_mget, vMget_S, mgS_map, o_mkmap, o_mput, vMput_S, mpS_map, mpO_none, part_22, h1, h]
  rfl
end Go.Ab
end
section
/- exegesislaw09: two, awake. -/
set_option linter.unusedVariables false
set_option linter.unusedSimpArgs false
namespace Go.Ab
variable {F : Funs}
def twoG : Gr := ⟨1, [⟨0, 2, 0, 0, 0, false⟩, ⟨1, 1, 0, 0, 0, false⟩], [-1, 0], [[0]], [], [], [], []⟩
theorem two_few : Few twoG := by
  refine ⟨by decide, by decide, ?_⟩
  intro c hc
  simp only [twoG, List.mem_singleton] at hc
  subst hc; decide
theorem two_rf : has (nOf twoG) (relE rfS twoG) 0 1 = true := by decide +kernel
theorem two_outer : has (nOf twoG) (partR outer twoG (nOf twoG) (relE rfS twoG)) 0 1 = true := by decide +kernel
theorem two_inner : has (nOf twoG) (partR inner twoG (nOf twoG) (relE rfS twoG)) 0 1 = false := by decide +kernel
theorem two_loc : has (nOf twoG) (partR locP twoG (nOf twoG) (poR twoG)) 0 1 = true := by decide +kernel
theorem two_fr : has (nOf twoG) (relE (frS twoG.co) twoG) 1 0 = false := by decide +kernel
def resC (agg : Option Nat) (g : G) : AV → Option AV
  | .mp b off => match g.hp b with
    | some (.cells cs _) => part cs off agg
    | _ => none
  | _ => none
theorem res_cell (n agg e g) : resE [.cell n agg] e g = resC agg g (e n) := by
  simp only [resE, resAll, resOne, resC]
  cases e n <;> try rfl
  rename_i b off
  simp only
  cases g.hp b with
  | none => rfl
  | some bl =>
    cases bl with
    | cells cs ro => simp only; cases part cs off agg <;> rfl
    | map _ => rfl
    | tok _ => rfl
set_option maxRecDepth 100000 in
theorem sp_two (h62 : F 62 = some A_xlaw09_two) : pureS F 62 [] = some (.agg (grC twoG)) := by
  refine pure_of h62 ?_
  have r5 : ∀ x : AV, List.replicate 5 x = [x, x, x, x, x] := fun _ => rfl
  have r7 : ∀ x : AV, List.replicate 7 x = [x, x, x, x, x, x, x] := fun _ => rfl
  have s6 : ∀ a1 a2 a3 a4 a5 a6 b1 b2 b3 b4 b5 b6 c1 c2 c3 c4 c5 c6 : AV, splice [a1, a2, a3, a4, a5, a6, b1, b2, b3, b4, b5, b6] 0 [c1, c2, c3, c4, c5, c6] = [c1, c2, c3, c4, c5, c6, b1, b2, b3, b4, b5, b6] := fun _ _ _ _ _ _ _ _ _ _ _ _ _ _ _ _ _ _ => rfl
  have s12 : ∀ a1 a2 a3 a4 a5 a6 b1 b2 b3 b4 b5 b6 c1 c2 c3 c4 c5 c6 : AV, splice [a1, a2, a3, a4, a5, a6, b1, b2, b3, b4, b5, b6] 6 [c1, c2, c3, c4, c5, c6] = [a1, a2, a3, a4, a5, a6, c1, c2, c3, c4, c5, c6] := fun _ _ _ _ _ _ _ _ _ _ _ _ _ _ _ _ _ _ => rfl
  have s8 : ∀ a1 a2 a3 a4 a5 a6 a7 a8 c1 c2 c3 c4 c5 c6 c7 c8 : AV, splice [a1, a2, a3, a4, a5, a6, a7, a8] 0 [c1, c2, c3, c4, c5, c6, c7, c8] = [c1, c2, c3, c4, c5, c6, c7, c8] := fun _ _ _ _ _ _ _ _ _ _ _ _ _ _ _ _ => rfl
  have p8 : ∀ a1 a2 a3 a4 a5 a6 a7 a8 : AV, part [a1, a2, a3, a4, a5, a6, a7, a8] 0 (some 8) = some (.agg [a1, a2, a3, a4, a5, a6, a7, a8]) := fun _ _ _ _ _ _ _ _ => rfl
  simp (disch := omega) only [A_xlaw09_two, W_skip, W_ext, W_ret, W_seq, thenQ_nrm, thenQ_ext, thenQ_ret, W_cond, selW_true, selW_false, W_blk, blkQ_nrm, blkQ_ret, blkQ_same, blkQ_ne, W_reg, nrmQ_is, WR_nil, WR_cons, selO_true, selO_false, bindO_some, loopQ_nrm, loopQ_ext, loopQ_ret, wanted_none, wanted_some, wantV_1, wantV_0, wantV_undef, ev_t, ev_c, put_some, put_none, upd_same, upd_ne, List.length_cons, List.length_nil, List.map_cons, List.map_nil, allow_no, allow_lt, argEnv_0, argEnv_1, argEnv_2, argEnv_3, argEnv_4, argEnv_5, res_1, res_2, retQ_nrm, retQ_ret, o_mv, o_pick, vPick_t, vPick_f, o_new, o_box, vBox_S, boxD_ok, vMap_some, vMapL_some, o_build, o_ld, vLd_ptr, vLd_S, ldS_ok, selB_true, o_st, vSt_S, stS_ok, stD_ok, o_nilck, vNil_ptr, vNil_mp, vNil_fn, o_bin, o_un, o_mkfn, o_fa, vFa_mp, vFa_S, faD_ok, o_fld, vFld_agg, o_ia, vIa_sl, vIa_ms, o_iaa, vIaa_ptr, vIaa_mp, o_len, vLen_sl, vLen_ms, o_mx, o_mn, vMx_i, vMn_i, o_ext, vExt_tup, b_add, b_sub, b_mul, b_lss, b_leq, b_gtr, b_geq, b_eql, b_neq, o_pure, List.nil_append, List.append_nil, List.cons_append, frz_d_i, frz_d_b, frz_d_s, frz_d_nilp, frz_d_ptr, frz_d_sl, frz_d_fn0, Bool.not_true, Bool.not_false, Bool.true_and, Bool.and_true, Bool.false_and, Bool.and_false, decide_true, decide_false, beq_self_eq_true, Bool.true_eq_false, Bool.false_eq_true, Nat.zero_add, Nat.add_zero, Int.toNat_natCast, ge_iff_le, gt_iff_lt, fill_S, fillD_ok, fill_nil, cellsOf_agg, cellsOf_i, cellsOf_b, cellsOf_s, cellsOf_ptr, cellsOf_nilp, cellsOf_sl, cellsOf_mp, cellsOf_fn, one_i, one_b, one_s, one_ptr, one_nilp, one_sl, one_mp, one_fn, List.all_cons, List.all_nil, splice_1, splice_2, splice_3, part_0, part_1, part_2, drop_0, g0_nx, g0_hp, List.set_cons_zero, List.set_cons_succ, List.length_append, List.length_replicate, Nat.reduceAdd, Nat.reduceMul, Nat.reduceSub, eq_self, true_and, and_true, vPure_S, purS_some, purD_some, purE_true, frzL_cons, frzL_nil, consO_ok, flat_i, flat_b, flat_s, flat_nilp, flat_ptr, flat_sl, flat_agg, flat_tup, vis_i, vis_b, vis_s, vis_nilp, vis_ptr, vis_sl, vis_fn0, List.flatMap_cons, List.flatMap_nil, isEmpty_nil, Bool.true_or, Bool.false_or, Bool.or_true, Bool.or_false, frz_P, frz_Q, frzP_cells, frzB_true, map_some', rd_S, o_bsl, vBsl_t, vBsl_f, o_app, appD_ok, vApp_rig, vApp_rig0, appK_ok, vApp_own, o_eqn, o_eqb, o_eqa, aeqn_pn, aeqn_np, aeqn_mn, aeqn_nn, aeqb_bb, negb_t, negb_f, aun_not, midQ_nrm, evC_len, evC_one, evC_flat, evC_all, ev_th, ev_kd, ev_md, ev_lc, ev_vl, ev_ex, grC_len, grC_one, grC_all, gr_locs, gr_evs, gr_rf, gr_co, gr_rmw, gr_data, gr_ctrl, gr_ctrli, frz_gr, frz_ev, vis_gr, vis_ev, splice_ev, evsC_len, coC_len, o_raw, vRaw_fn, res_0, retP_nrm, retP_ret, o_mget, vMget_S, mgS_map, o_mkmap, o_mput, vMput_S, mpS_map, mpO_none, part_22, res_cell, r5, r7, s6, s12, s8, p8, List.length_set, resC]
  refine frz_d_agg ?_
  show frzL _ (7 + 1) _ = _
  simp only [frzL, frz]
  rfl
theorem splice_gr (X : Gr) : splice (AV.i .i64 0 :: List.replicate 7 (.sl [] 0 .rig)) 0 (grC X) = grC X := rfl
set_option maxRecDepth 100000 in
set_option maxHeartbeats 1000000 in
theorem sp_awakeE (hA : F 43 = some A_xlaw09_awake) (h62 : F 62 = some A_xlaw09_two) (pe : Pk_eco F) (h60 : F 60 = some A_graph_Po) (h81 : F 81 = some A_graph_Of) (pr : Pk_rel F) : pureS F 43 [] = some (.b true) := by
  refine pure_of hA ?_
  have hn := nOf_le twoG
  have hl : twoG.evs.length ≤ 1000 := by decide
  have e01 : has (nOf twoG) (relE rfS twoG) 0 1 = true := two_rf
  simp (disch := omega) only [A_xlaw09_awake, W_skip, W_ext, W_ret, W_seq, thenQ_nrm, thenQ_ext, thenQ_ret, W_cond, selW_true, selW_false, W_blk, blkQ_nrm, blkQ_ret, blkQ_same, blkQ_ne, W_reg, nrmQ_is, WR_nil, WR_cons, selO_true, selO_false, bindO_some, loopQ_nrm, loopQ_ext, loopQ_ret, wanted_none, wanted_some, wantV_1, wantV_0, wantV_undef, ev_t, ev_c, put_some, put_none, upd_same, upd_ne, List.length_cons, List.length_nil, List.map_cons, List.map_nil, allow_no, allow_lt, argEnv_0, argEnv_1, argEnv_2, argEnv_3, argEnv_4, argEnv_5, res_1, res_2, retQ_nrm, retQ_ret, o_mv, o_pick, vPick_t, vPick_f, o_new, o_box, vBox_S, boxD_ok, vMap_some, vMapL_some, o_build, o_ld, vLd_ptr, vLd_S, ldS_ok, selB_true, o_st, vSt_S, stS_ok, stD_ok, o_nilck, vNil_ptr, vNil_mp, vNil_fn, o_bin, o_un, o_mkfn, o_fa, vFa_mp, vFa_S, faD_ok, o_fld, vFld_agg, o_ia, vIa_sl, vIa_ms, o_iaa, vIaa_ptr, vIaa_mp, o_len, vLen_sl, vLen_ms, o_mx, o_mn, vMx_i, vMn_i, o_ext, vExt_tup, b_add, b_sub, b_mul, b_lss, b_leq, b_gtr, b_geq, b_eql, b_neq, o_pure, List.nil_append, List.append_nil, List.cons_append, frz_d_i, frz_d_b, frz_d_s, frz_d_nilp, frz_d_ptr, frz_d_sl, frz_d_fn0, Bool.not_true, Bool.not_false, Bool.true_and, Bool.and_true, Bool.false_and, Bool.and_false, decide_true, decide_false, beq_self_eq_true, Bool.true_eq_false, Bool.false_eq_true, Nat.zero_add, Nat.add_zero, Int.toNat_natCast, ge_iff_le, gt_iff_lt, fill_S, fillD_ok, fill_nil, cellsOf_agg, cellsOf_i, cellsOf_b, cellsOf_s, cellsOf_ptr, cellsOf_nilp, cellsOf_sl, cellsOf_mp, cellsOf_fn, one_i, one_b, one_s, one_ptr, one_nilp, one_sl, one_mp, one_fn, List.all_cons, List.all_nil, splice_1, splice_2, splice_3, part_0, part_1, part_2, drop_0, g0_nx, g0_hp, List.set_cons_zero, List.set_cons_succ, List.length_append, List.length_replicate, Nat.reduceAdd, Nat.reduceMul, Nat.reduceSub, eq_self, true_and, and_true, vPure_S, purS_some, purD_some, purE_true, frzL_cons, frzL_nil, consO_ok, flat_i, flat_b, flat_s, flat_nilp, flat_ptr, flat_sl, flat_agg, flat_tup, vis_i, vis_b, vis_s, vis_nilp, vis_ptr, vis_sl, vis_fn0, List.flatMap_cons, List.flatMap_nil, isEmpty_nil, Bool.true_or, Bool.false_or, Bool.or_true, Bool.or_false, frz_P, frz_Q, frzP_cells, frzB_true, map_some', rd_S, o_bsl, vBsl_t, vBsl_f, o_app, appD_ok, vApp_rig, vApp_rig0, appK_ok, vApp_own, o_eqn, o_eqb, o_eqa, aeqn_pn, aeqn_np, aeqn_mn, aeqn_nn, aeqb_bb, negb_t, negb_f, aun_not, midQ_nrm, evC_len, evC_one, evC_flat, evC_all, ev_th, ev_kd, ev_md, ev_lc, ev_vl, ev_ex, grC_len, grC_one, grC_all, gr_locs, gr_evs, gr_rf, gr_co, gr_rmw, gr_data, gr_ctrl, gr_ctrli, frz_gr, frz_ev, vis_gr, vis_ev, splice_ev, evsC_len, coC_len, o_raw, vRaw_fn, res_0, retP_nrm, retP_ret, o_mget, vMget_S, mgS_map, o_mkmap, o_mput, vMput_S, mpS_map, mpO_none, part_22, sp_two h62, splice_gr, sp_Rf pe h81 pr two_few, sp_Fr pe h81 pr two_few, sp_Inner pe h81 pr hn, sp_Outer pe h81 pr hn, sp_Loc pe h60 h81 pr hl, sp_has pr hn, two_rf, two_outer, two_inner, two_loc, two_fr]
end Go.Ab
end
section
/- exegesislaw09.EcoThreads: the plain law. -/
set_option linter.unusedVariables false
set_option linter.unusedSimpArgs false
namespace Go.Ab
variable {F : Funs}
/-- All pairs, row by row. -/
def fullRow (n a j : Nat) : List (Int × Int) := (List.range j).map fun (b : Nat) => ((a : Int), (b : Int))
def fullK (n k : Nat) : List (Int × Int) := (List.range k).flatMap fun a => fullRow n a n
theorem fullK_succ (n k) : fullK n (k + 1) = fullK n k ++ fullRow n k n := by simp [fullK, List.range_succ]
/-- The pairs of a relation that is so by a test are those of all that pass it. -/
theorem pairs_test {n : Nat} {R : Rw} {P : Int × Int → Bool} (h : ∀ a b : Nat, a < n → b < n → hN n R a b = P ((a : Int), (b : Int))) : pairsR n R = (fullK n n).filter P := by
  have row : ∀ a, a < n → rowPr n R a n = (fullRow n a n).filter P := by
    intro a ha
    unfold rowPr fullRow
    rw [List.filter_map]
    congr 1
    refine List.filter_congr fun b hb => ?_
    rw [has_N, h a b ha (List.mem_range.1 hb)]; rfl
  have key : ∀ k, k ≤ n → pairsK n k R = (fullK n k).filter P := by
    intro k
    induction k with
    | zero => intro _; rfl
    | succ k ih => intro hk; rw [pairsK_succ, fullK_succ, List.filter_append, ih (by omega), row k (by omega)]
  exact key n (Nat.le_refl _)
theorem mem_full {n : Nat} {p : Int × Int} : p ∈ fullK n n ↔ ∃ a b : Nat, a < n ∧ b < n ∧ p = ((a : Int), (b : Int)) := by
  unfold fullK fullRow
  simp only [List.mem_flatMap, List.mem_map, List.mem_range]
  constructor
  · rintro ⟨a, ha, b, hb, rfl⟩; exact ⟨a, b, ha, hb, rfl⟩
  · rintro ⟨a, b, ha, hb, rfl⟩; exact ⟨a, ha, b, hb, rfl⟩
theorem pairs_filter {n : Nat} (hn : n ≤ 40) (P : Int × Int → Bool) : pairsR n (newR n ((fullK n n).filter P)) = (fullK n n).filter P := by
  refine pairs_test fun a b ha hb' => ?_
  rw [hN_wf (wf_new hn _), hb_new hn, decide_eq_true ha, decide_eq_true hb', Bool.true_and, Bool.true_and, Bool.eq_iff_iff, List.any_eq_true]
  constructor
  · rintro ⟨p, hp, hq⟩
    rw [List.mem_filter] at hp
    simp only [decide_eq_true_eq] at hq
    rw [← hq]; exact hp.2
  · intro h
    exact ⟨_, List.mem_filter.2 ⟨mem_full.2 ⟨a, b, ha, hb', rfl⟩, h⟩, by simp⟩
theorem pairs_full {n : Nat} (hn : n ≤ 40) : pairsR n (newR n (fullK n n)) = fullK n n := by
  have h := pairs_filter hn (fun _ => true)
  have e : (fullK n n).filter (fun _ => true) = fullK n n := List.filter_eq_self.2 fun _ _ => rfl
  rwa [e] at h
/-- How many pairs a part of the whole has. -/
theorem part_full {X : Gr} (hn : X.evs.length ≤ 40) (so : Ev → Ev → Bool) : pairsR (nOf X) (partR so X (nOf X) (newR (nOf X) (fullK (nOf X) (nOf X)))) = (fullK (nOf X) (nOf X)).filter (okP so X) := by
  unfold partR
  rw [pairs_full (nOf_le X), pairs_filter (nOf_le X)]
theorem filter_not_len {l : List (Int × Int)} {P Q : Int × Int → Bool} (h : ∀ p ∈ l, Q p = !P p) : (l.filter Q).length = l.length - (l.filter P).length := by
  have key : (l.filter Q).length + (l.filter P).length = l.length := by
    induction l with
    | nil => rfl
    | cons p l ih =>
      have h1 := h p (List.mem_cons_self ..)
      have h2 := ih fun q hq => h q (List.mem_cons_of_mem _ hq)
      rw [List.filter_cons, List.filter_cons, h1]
      cases P p <;> simp <;> omega
  omega
theorem ev_th_at : ∀ {l : List Ev} {k : Nat} (h : k < l.length), part ((evsC l).drop (k * 6)) 0 none = some (.i .i64 (l.getD k ev0).th)
  | p :: l, 0, _ => by simp [evsC, part, evC]
  | p :: l, k + 1, h => by
    have := ev_th_at (l := l) (k := k) (by simpa using h)
    simp only [List.getD_cons_succ]
    rw [← this]
    simp [evsC, Nat.succ_mul, evC]
def fullL (n a j : Nat) : List (Int × Int) := fullK n a ++ fullRow n a j
theorem fullL_0 (n a) : fullL n a 0 = fullK n a := by simp [fullL, fullRow]
theorem fullL_n (n a) : fullL n a n = fullK n (a + 1) := (fullK_succ n a).symm
theorem fullL_succ (n a j) : fullL n a (j + 1) = fullL n a j ++ [((a : Int), (j : Int))] := by simp [fullL, fullRow, List.range_succ]
theorem fullL_len (n a j) : (fullL n a j).length = a * n + j := by
  have : ∀ a, (fullK n a).length = a * n := by
    intro a
    induction a with
    | zero => simp [fullK]
    | succ a ih => rw [fullK_succ, List.length_append, ih, Nat.succ_mul]; simp [fullRow]
  simp [fullL, this, fullRow]
end Go.Ab
end
section
/- exegesislaw09.EcoThreads: the graph of fences, and what holds of it. -/
set_option linter.unusedVariables false
set_option linter.unusedSimpArgs false
namespace Go.Ab
variable {F : Funs}
theorem blk_cut {c rest : ACode} {id : Nat} {e : Env} {g : G} {Q : Out → Env → G → Prop} (M : Env → G → Prop) (h1 : W F c e g (blkQ id (midQ M))) (h2 : ∀ e g, M e g → W F rest e g Q) : W F c e g (blkQ id (thenQ F rest Q)) := by
  refine W_mono h1 fun o e g h => ?_
  cases o with
  | nrm => exact h2 e g h
  | ret => exact h.elim
  | ext n =>
    have h : if n = id then midQ M .nrm e g else midQ M (.ext n) e g := h
    show if n = id then thenQ F rest Q .nrm e g else thenQ F rest Q (.ext n) e g
    by_cases hn : n = id
    · rw [if_pos hn] at h ⊢; exact h2 e g h
    · rw [if_neg hn] at h; exact h.elim
def barE (t : Int) : Ev := ⟨t, 3, 1, 0, 0, false⟩
def wrE : Ev := ⟨0, 2, 0, 0, 0, false⟩
def thrX (bars : List Int) : Gr := ⟨1, wrE :: bars.map barE, -1 :: bars.map (fun _ => -1), [[0]], [], [], [], []⟩
def grT (X : Gr) (t1 t2 : Tok) : List AV := [.i .i64 X.locs, .sl (evsC X.evs) X.evs.length t1, .sl (intsC X.rf) X.rf.length t2, .sl (coC X.co) X.co.length .rig, .sl [] 0 .rig, .sl [] 0 .rig, .sl [] 0 .rig, .sl [] 0 .rig]
theorem gt_evs (X t1 t2) : part (grT X t1 t2) 1 none = some (.sl (evsC X.evs) X.evs.length t1) := rfl
theorem gt_all (X t1 t2) : part (grT X t1 t2) 0 (some 8) = some (.agg (grT X t1 t2)) := rfl
theorem frz_gt (hp) (bars t1 t2) : frz hp depth (.agg (grT (thrX bars) t1 t2)) = some (.agg (grC (thrX bars))) := by
  refine frz_d_agg ?_
  show frzL hp (7 + 1) _ = _
  simp only [grT, frzL, frz]
  rfl
theorem vis_gt (hp) (X t1 t2) : vis hp depth (.agg (grT X t1 t2)) = [] := by
  show vis hp (8 + 1) _ = _
  simp only [vis, grT, List.flatMap_cons, List.flatMap_nil, List.nil_append, List.append_nil]
theorem thr_len (bars) : (thrX bars).evs.length = bars.length + 1 := by simp [thrX]
theorem thr_nOf {bars : List Int} (h : bars.length ≤ 20) : nOf (thrX bars) = bars.length + 1 := by
  unfold nOf; rw [thr_len]; unfold clamp; omega
theorem thr_few {bars : List Int} (h : bars.length ≤ 20) : Few (thrX bars) := by
  refine ⟨by rw [thr_len]; omega, by simp [thrX], ?_⟩
  intro c hc
  simp only [thrX, List.mem_singleton] at hc
  subst hc; decide
theorem thr_kd (bars : List Int) (k : Nat) : (thrX bars).evs.getD k ev0 = ev0 ∨ (thrX bars).evs.getD k ev0 = wrE ∧ k = 0 ∨ ((thrX bars).evs.getD k ev0).kd = 3 := by
  cases k with
  | zero => exact .inr (.inl ⟨rfl, rfl⟩)
  | succ k =>
    show (bars.map barE).getD k ev0 = ev0 ∨ _ ∨ ((bars.map barE).getD k ev0).kd = 3
    by_cases h : k < bars.length
    · refine .inr (.inr ?_)
      rw [List.getD_eq_getElem?_getD, List.getElem?_map, List.getElem?_eq_getElem h]; rfl
    · refine .inl ?_
      rw [List.getD_eq_getElem?_getD, List.getElem?_map, List.getElem?_eq_none (by omega)]; rfl
theorem pairsE_none {stp : Int → Int → Ev → List (Int × Int)} {X : Gr} (h : ∀ k : Nat, k < X.evs.length → stp k (wOf X k) (X.evs.getD k ev0) = []) : pairsE stp X X.evs.length = [] := by
  unfold pairsE
  rw [List.flatMap_eq_nil_iff]
  intro k hk
  exact h k (List.mem_range.1 hk)
theorem thr_rf (bars : List Int) : pairsE rfS (thrX bars) (thrX bars).evs.length = [] := pairsE_none fun k hk => by
  have h := thr_kd bars k
  unfold rfS
  rcases h with h | ⟨h, _⟩ | h <;> rw [h] <;> rfl
theorem thr_fr (bars : List Int) : pairsE (frS (thrX bars).co) (thrX bars) (thrX bars).evs.length = [] := pairsE_none fun k hk => by
  have h := thr_kd bars k
  unfold frS
  rcases h with h | ⟨h, _⟩ | h <;> rw [h] <;> rfl
theorem thr_co (bars : List Int) : pairsE (coS (thrX bars).co) (thrX bars) (thrX bars).evs.length = [] := pairsE_none fun k hk => by
  have h := thr_kd bars k
  unfold coS
  rcases h with h | ⟨h, rfl⟩ | h
  · rw [h]; rfl
  · rw [h]; rfl
  · rw [h]; rfl
theorem pairs_nil {n : Nat} {R : Rw} (h : ∀ a b, hN n R a b = false) : pairsR n R = [] := by
  rw [List.eq_nil_iff_forall_not_mem]
  intro p hp
  obtain ⟨a, b, _, hh⟩ := mem_pairsR.1 hp
  rw [h] at hh; cases hh
theorem thr_eco {bars : List Int} (h : bars.length ≤ 20) : pairsR (nOf (thrX bars)) (ecoR (thrX bars)) = [] := by
  have hn := nOf_le (thrX bars)
  have w0 := wf_new hn []
  have hw := wf_or (wf_or w0 w0) w0
  refine pairs_nil fun a b => ?_
  unfold ecoR relE
  rw [thr_rf, thr_co, thr_fr, hN_wf (wf_plus hw), Bool.eq_false_iff]
  intro hh
  rw [hb_plus hw] at hh
  have no : ∀ x y, hb (orR (orR (newR (nOf (thrX bars)) []) (newR (nOf (thrX bars)) [])) (newR (nOf (thrX bars)) [])) x y = false := fun x y => by
    simp only [hb_or, hb_new hn, List.any_nil, Bool.and_false, Bool.or_false]
  induction hh with
  | one h => rw [no] at h; cases h
  | _ => simp_all
theorem thr_loc {bars : List Int} (h : bars.length ≤ 20) : pairsR (nOf (thrX bars)) (partR locP (thrX bars) (nOf (thrX bars)) (poR (thrX bars))) = [] := by
  have hn := nOf_le (thrX bars)
  have key : (pairsR (nOf (thrX bars)) (poR (thrX bars))).filter (okP locP (thrX bars)) = [] := by
    rw [List.filter_eq_nil_iff]
    intro p hp hq
    obtain ⟨a, b, rfl, hh⟩ := mem_pairsR.1 hp
    unfold poR at hh
    rw [hN_wf (wf_new hn _), hb_new hn] at hh
    simp only [Bool.and_eq_true, decide_eq_true_eq, List.any_eq_true] at hh
    obtain ⟨⟨ha, hb'⟩, q, hq1, rfl⟩ := hh
    unfold okP locP at hq
    simp only [Bool.and_eq_true, decide_eq_true_eq, Int.toNat_natCast, bne_iff_ne, ne_eq] at hq
    simp only [poK, poRow, List.mem_flatMap, List.mem_map, List.mem_filter, List.mem_range] at hq1
    obtain ⟨a', ha', b', ⟨hb2, hpo⟩, he⟩ := hq1
    injection he with e1 e2
    have e1 : a' = a := by omega
    have e2 : b' = b := by omega
    subst e1 e2
    have ne0 : ∀ k, k < (thrX bars).evs.length → ((thrX bars).evs.getD k ev0).kd ≠ 3 → k = 0 := by
      intro k hk hkd
      cases k with
      | zero => rfl
      | succ k =>
        exfalso; apply hkd
        rw [thr_len] at hk
        show ((bars.map barE).getD k ev0).kd = 3
        rw [List.getD_eq_getElem?_getD, List.getElem?_map, List.getElem?_eq_getElem (by omega)]; rfl
    have z1 := ne0 a' ha' hq.2.1.1
    have z2 := ne0 b' hb2 hq.2.1.2
    subst z1 z2
    revert hpo
    simp [poB, thrX, wrE]
  unfold partR
  rw [key]
  exact pairs_nil fun a b => by rw [hN_wf (wf_new hn _), hb_new hn]; simp
theorem thr_outer {bars : List Int} (h : bars.length ≤ 20) (p : Int × Int) (hp : p ∈ fullK (bars.length + 1) (bars.length + 1)) : okP outer (thrX bars) p = !okP inner (thrX bars) p := by
  obtain ⟨a, b, ha, hb', rfl⟩ := mem_full.1 hp
  unfold okP
  have h1 : ((a : Nat) : Int) < (thrX bars).evs.length := by rw [thr_len]; omega
  have h2 : ((b : Nat) : Int) < (thrX bars).evs.length := by rw [thr_len]; omega
  simp only [h1, h2, decide_true, Bool.true_and]
  rfl
def cnt (X : Gr) (n a j : Nat) : Nat := ((fullL n a j).filter (okP inner X)).length
theorem cnt_0 (X n a) : cnt X n (a + 1) 0 = cnt X n a n := by unfold cnt; rw [fullL_0, fullL_n]
theorem cnt_succ (X n a j) : cnt X n a (j + 1) = if okP inner X ((a : Int), (j : Int)) then cnt X n a j + 1 else cnt X n a j := by
  unfold cnt
  rw [fullL_succ, List.filter_append, List.filter_cons, List.filter_nil, List.length_append]
  split <;> simp_all
theorem cnt_le (X n a j) : cnt X n a j ≤ a * n + j := by
  unfold cnt; rw [← fullL_len n a j]; exact List.length_filter_le _ _
theorem okP_in {X : Gr} {a b : Nat} (ha : a < X.evs.length) (hb' : b < X.evs.length) : okP inner X ((a : Int), (b : Int)) = ((X.evs.getD a ev0).th == (X.evs.getD b ev0).th) := by
  unfold okP inner
  have h1 : ((a : Nat) : Int) < X.evs.length := by omega
  have h2 : ((b : Nat) : Int) < X.evs.length := by omega
  simp only [h1, h2, decide_true, Bool.true_and, Int.toNat_natCast]
end Go.Ab
end
section
/- exegesislaw09.EcoThreads: the walk. -/
set_option linter.unusedVariables false
set_option linter.unusedSimpArgs false
namespace Go.Ab
variable {F : Funs}
set_option maxRecDepth 100000 in
set_option maxHeartbeats 4000000 in
theorem sp_ecoThreads (h5 : F 5 = some A_xlaw09_EcoThreads) (hA : F 43 = some A_xlaw09_awake) (h62 : F 62 = some A_xlaw09_two) (h10 : F 10 = some A_xlaw00_Place) (pe : Pk_eco F) (h60 : F 60 = some A_graph_Po) (h81 : F 81 = some A_graph_Of) (pr : Pk_rel F) (sizes : List Int) (t : Tok) :
    pureS F 5 [.sl (intsC sizes) sizes.length t] = some (.b true) := by
  refine pure_of h5 ?_
  have r5 : ∀ x : AV, List.replicate 5 x = [x, x, x, x, x] := fun _ => rfl
  have r7 : ∀ x : AV, List.replicate 7 x = [x, x, x, x, x, x, x] := fun _ => rfl
  have s6 : ∀ b1 b2 b3 b4 b5 b6 c1 c2 c3 c4 c5 c6 : AV, splice [b1, b2, b3, b4, b5, b6] 0 [c1, c2, c3, c4, c5, c6] = [c1, c2, c3, c4, c5, c6] := fun _ _ _ _ _ _ _ _ _ _ _ _ => rfl
  have s8 : ∀ a1 a2 a3 a4 a5 a6 a7 a8 c1 c2 c3 c4 c5 c6 c7 c8 : AV, splice [a1, a2, a3, a4, a5, a6, a7, a8] 0 [c1, c2, c3, c4, c5, c6, c7, c8] = [c1, c2, c3, c4, c5, c6, c7, c8] := fun _ _ _ _ _ _ _ _ _ _ _ _ _ _ _ _ => rfl
  simp (disch := omega) only [A_xlaw09_EcoThreads, W_skip, W_ext, W_ret, W_seq, thenQ_nrm, thenQ_ext, thenQ_ret, W_cond, selW_true, selW_false, W_blk, blkQ_nrm, blkQ_ret, blkQ_same, blkQ_ne, W_reg, nrmQ_is, WR_nil, WR_cons, selO_true, selO_false, bindO_some, loopQ_nrm, loopQ_ext, loopQ_ret, wanted_none, wanted_some, wantV_1, wantV_0, wantV_undef, ev_t, ev_c, put_some, put_none, upd_same, upd_ne, List.length_cons, List.length_nil, List.map_cons, List.map_nil, allow_no, allow_lt, argEnv_0, argEnv_1, argEnv_2, argEnv_3, argEnv_4, argEnv_5, res_1, res_2, retQ_nrm, retQ_ret, o_mv, o_pick, vPick_t, vPick_f, o_new, o_box, vBox_S, boxD_ok, vMap_some, vMapL_some, o_build, o_ld, vLd_ptr, vLd_S, ldS_ok, selB_true, o_st, vSt_S, stS_ok, stD_ok, o_nilck, vNil_ptr, vNil_mp, vNil_fn, o_bin, o_un, o_mkfn, o_fa, vFa_mp, vFa_S, faD_ok, o_fld, vFld_agg, o_ia, vIa_sl, vIa_ms, o_iaa, vIaa_ptr, vIaa_mp, o_len, vLen_sl, vLen_ms, o_mx, o_mn, vMx_i, vMn_i, o_ext, vExt_tup, b_add, b_sub, b_mul, b_lss, b_leq, b_gtr, b_geq, b_eql, b_neq, o_pure, List.nil_append, List.append_nil, List.cons_append, frz_d_i, frz_d_b, frz_d_s, frz_d_nilp, frz_d_ptr, frz_d_sl, frz_d_fn0, Bool.not_true, Bool.not_false, Bool.true_and, Bool.and_true, Bool.false_and, Bool.and_false, decide_true, decide_false, beq_self_eq_true, Bool.true_eq_false, Bool.false_eq_true, Nat.zero_add, Nat.add_zero, Int.toNat_natCast, ge_iff_le, gt_iff_lt, fill_S, fillD_ok, fill_nil, cellsOf_agg, cellsOf_i, cellsOf_b, cellsOf_s, cellsOf_ptr, cellsOf_nilp, cellsOf_sl, cellsOf_mp, cellsOf_fn, one_i, one_b, one_s, one_ptr, one_nilp, one_sl, one_mp, one_fn, List.all_cons, List.all_nil, splice_1, splice_2, splice_3, part_0, part_1, part_2, drop_0, g0_nx, g0_hp, List.set_cons_zero, List.set_cons_succ, List.length_append, List.length_replicate, Nat.reduceAdd, Nat.reduceMul, Nat.reduceSub, eq_self, true_and, and_true, vPure_S, purS_some, purD_some, purE_true, frzL_cons, frzL_nil, consO_ok, flat_i, flat_b, flat_s, flat_nilp, flat_ptr, flat_sl, flat_agg, flat_tup, vis_i, vis_b, vis_s, vis_nilp, vis_ptr, vis_sl, vis_fn0, List.flatMap_cons, List.flatMap_nil, isEmpty_nil, Bool.true_or, Bool.false_or, Bool.or_true, Bool.or_false, frz_P, frz_Q, frzP_cells, frzB_true, map_some', rd_S, o_bsl, vBsl_t, vBsl_f, o_app, appD_ok, vApp_rig, vApp_rig0, appK_ok, vApp_own, o_eqn, o_eqb, o_eqa, aeqn_pn, aeqn_np, aeqn_mn, aeqn_nn, aeqb_bb, negb_t, negb_f, aun_not, midQ_nrm, evC_len, evC_one, evC_flat, evC_all, ev_th, ev_kd, ev_md, ev_lc, ev_vl, ev_ex, grC_len, grC_one, grC_all, gr_locs, gr_evs, gr_rf, gr_co, gr_rmw, gr_data, gr_ctrl, gr_ctrli, frz_gr, frz_ev, vis_gr, vis_ev, splice_ev, evsC_len, coC_len, o_raw, vRaw_fn, res_0, retP_nrm, retP_ret, o_mget, vMget_S, mgS_map, o_mkmap, o_mput, vMput_S, mpS_map, mpO_none, part_22, r5, r7, s6, s8, List.length_set]
  refine blk_cut (fun e g => ∃ bars t1 t2, e 3 = .mp 7 0 ∧ g.hp 7 = some (.cells (grT (thrX bars) t1 t2) false) ∧ bars.length ≤ 20 ∧ 7 < g.nx) ?_ ?_
  · refine W_loop (fun q e g => ∃ k bars t1 t2, q = sizes.length - k ∧ k ≤ sizes.length ∧ k ≤ 4 ∧ e 0 = .sl (intsC sizes) sizes.length t ∧ e 4 = .i .i64 k ∧ e 3 = .mp 7 0 ∧ g.hp 7 = some (.cells (grT (thrX bars) t1 t2) false) ∧ Live g 6 t1 ∧ Live g 1 t2 ∧ (∀ i, t1 ≠ .own i 6 ∨ t2 ≠ .own i 1) ∧ bars.length ≤ 5 * k ∧ 7 < g.nx) sizes.length ?_ ?_
    · refine ⟨0, [], .rig, .rig, rfl, Nat.zero_le _, by omega, ?_⟩
      simp (disch := omega) only [W_skip, W_ext, W_ret, W_seq, thenQ_nrm, thenQ_ext, thenQ_ret, W_cond, selW_true, selW_false, W_blk, blkQ_nrm, blkQ_ret, blkQ_same, blkQ_ne, W_reg, nrmQ_is, WR_nil, WR_cons, selO_true, selO_false, bindO_some, loopQ_nrm, loopQ_ext, loopQ_ret, wanted_none, wanted_some, wantV_1, wantV_0, wantV_undef, ev_t, ev_c, put_some, put_none, upd_same, upd_ne, List.length_cons, List.length_nil, List.map_cons, List.map_nil, allow_no, allow_lt, argEnv_0, argEnv_1, argEnv_2, argEnv_3, argEnv_4, argEnv_5, res_1, res_2, retQ_nrm, retQ_ret, o_mv, o_pick, vPick_t, vPick_f, o_new, o_box, vBox_S, boxD_ok, vMap_some, vMapL_some, o_build, o_ld, vLd_ptr, vLd_S, ldS_ok, selB_true, o_st, vSt_S, stS_ok, stD_ok, o_nilck, vNil_ptr, vNil_mp, vNil_fn, o_bin, o_un, o_mkfn, o_fa, vFa_mp, vFa_S, faD_ok, o_fld, vFld_agg, o_ia, vIa_sl, vIa_ms, o_iaa, vIaa_ptr, vIaa_mp, o_len, vLen_sl, vLen_ms, o_mx, o_mn, vMx_i, vMn_i, o_ext, vExt_tup, b_add, b_sub, b_mul, b_lss, b_leq, b_gtr, b_geq, b_eql, b_neq, o_pure, List.nil_append, List.append_nil, List.cons_append, frz_d_i, frz_d_b, frz_d_s, frz_d_nilp, frz_d_ptr, frz_d_sl, frz_d_fn0, Bool.not_true, Bool.not_false, Bool.true_and, Bool.and_true, Bool.false_and, Bool.and_false, decide_true, decide_false, beq_self_eq_true, Bool.true_eq_false, Bool.false_eq_true, Nat.zero_add, Nat.add_zero, Int.toNat_natCast, ge_iff_le, gt_iff_lt, fill_S, fillD_ok, fill_nil, cellsOf_agg, cellsOf_i, cellsOf_b, cellsOf_s, cellsOf_ptr, cellsOf_nilp, cellsOf_sl, cellsOf_mp, cellsOf_fn, one_i, one_b, one_s, one_ptr, one_nilp, one_sl, one_mp, one_fn, List.all_cons, List.all_nil, splice_1, splice_2, splice_3, part_0, part_1, part_2, drop_0, g0_nx, g0_hp, List.set_cons_zero, List.set_cons_succ, List.length_append, List.length_replicate, Nat.reduceAdd, Nat.reduceMul, Nat.reduceSub, eq_self, true_and, and_true, vPure_S, purS_some, purD_some, purE_true, frzL_cons, frzL_nil, consO_ok, flat_i, flat_b, flat_s, flat_nilp, flat_ptr, flat_sl, flat_agg, flat_tup, vis_i, vis_b, vis_s, vis_nilp, vis_ptr, vis_sl, vis_fn0, List.flatMap_cons, List.flatMap_nil, isEmpty_nil, Bool.true_or, Bool.false_or, Bool.or_true, Bool.or_false, frz_P, frz_Q, frzP_cells, frzB_true, map_some', rd_S, o_bsl, vBsl_t, vBsl_f, o_app, appD_ok, vApp_rig, vApp_rig0, appK_ok, vApp_own, o_eqn, o_eqb, o_eqa, aeqn_pn, aeqn_np, aeqn_mn, aeqn_nn, aeqb_bb, negb_t, negb_f, aun_not, midQ_nrm]
      exact ⟨rfl, by rfl, .inl rfl, .inl rfl, fun _ => .inl (by simp), Nat.le_refl _, by first | omega | (dsimp only; omega)⟩
    · rintro q e g ⟨k, bars, t1, t2, rfl, hk, hk4, e0, e4, e3, hg, L1, L2, hne, hbl, hnx⟩
      by_cases hk' : k < sizes.length
      · have hk1 : (k : Int) < sizes.length := by omega
        by_cases h4 : k < 4
        · have h41 : (k : Int) < 4 := by omega
          have hwk := succ_wrap (k := k) (by omega)
          have hip := ints_part hk'
          generalize sizes.getD k 0 = v at hip
          have hpl := sp_place h10 (v := v) (n := 6) (by omega) (by omega)
          obtain ⟨q0, q1⟩ := place_lt (v := v) (n := 6) (by omega)
          generalize place v 6 = p at hpl q0 q1
          simp (disch := omega) only [W_skip, W_ext, W_ret, W_seq, thenQ_nrm, thenQ_ext, thenQ_ret, W_cond, selW_true, selW_false, W_blk, blkQ_nrm, blkQ_ret, blkQ_same, blkQ_ne, W_reg, nrmQ_is, WR_nil, WR_cons, selO_true, selO_false, bindO_some, loopQ_nrm, loopQ_ext, loopQ_ret, wanted_none, wanted_some, wantV_1, wantV_0, wantV_undef, ev_t, ev_c, put_some, put_none, upd_same, upd_ne, List.length_cons, List.length_nil, List.map_cons, List.map_nil, allow_no, allow_lt, argEnv_0, argEnv_1, argEnv_2, argEnv_3, argEnv_4, argEnv_5, res_1, res_2, retQ_nrm, retQ_ret, o_mv, o_pick, vPick_t, vPick_f, o_new, o_box, vBox_S, boxD_ok, vMap_some, vMapL_some, o_build, o_ld, vLd_ptr, vLd_S, ldS_ok, selB_true, o_st, vSt_S, stS_ok, stD_ok, o_nilck, vNil_ptr, vNil_mp, vNil_fn, o_bin, o_un, o_mkfn, o_fa, vFa_mp, vFa_S, faD_ok, o_fld, vFld_agg, o_ia, vIa_sl, vIa_ms, o_iaa, vIaa_ptr, vIaa_mp, o_len, vLen_sl, vLen_ms, o_mx, o_mn, vMx_i, vMn_i, o_ext, vExt_tup, b_add, b_sub, b_mul, b_lss, b_leq, b_gtr, b_geq, b_eql, b_neq, o_pure, List.nil_append, List.append_nil, List.cons_append, frz_d_i, frz_d_b, frz_d_s, frz_d_nilp, frz_d_ptr, frz_d_sl, frz_d_fn0, Bool.not_true, Bool.not_false, Bool.true_and, Bool.and_true, Bool.false_and, Bool.and_false, decide_true, decide_false, beq_self_eq_true, Bool.true_eq_false, Bool.false_eq_true, Nat.zero_add, Nat.add_zero, Int.toNat_natCast, ge_iff_le, gt_iff_lt, fill_S, fillD_ok, fill_nil, cellsOf_agg, cellsOf_i, cellsOf_b, cellsOf_s, cellsOf_ptr, cellsOf_nilp, cellsOf_sl, cellsOf_mp, cellsOf_fn, one_i, one_b, one_s, one_ptr, one_nilp, one_sl, one_mp, one_fn, List.all_cons, List.all_nil, splice_1, splice_2, splice_3, part_0, part_1, part_2, drop_0, g0_nx, g0_hp, List.set_cons_zero, List.set_cons_succ, List.length_append, List.length_replicate, Nat.reduceAdd, Nat.reduceMul, Nat.reduceSub, eq_self, true_and, and_true, vPure_S, purS_some, purD_some, purE_true, frzL_cons, frzL_nil, consO_ok, flat_i, flat_b, flat_s, flat_nilp, flat_ptr, flat_sl, flat_agg, flat_tup, vis_i, vis_b, vis_s, vis_nilp, vis_ptr, vis_sl, vis_fn0, List.flatMap_cons, List.flatMap_nil, isEmpty_nil, Bool.true_or, Bool.false_or, Bool.or_true, Bool.or_false, frz_P, frz_Q, frzP_cells, frzB_true, map_some', rd_S, o_bsl, vBsl_t, vBsl_f, o_app, appD_ok, vApp_rig, vApp_rig0, appK_ok, vApp_own, o_eqn, o_eqb, o_eqa, aeqn_pn, aeqn_np, aeqn_mn, aeqn_nn, aeqb_bb, negb_t, negb_f, aun_not, midQ_nrm, evC_len, evC_one, evC_flat, evC_all, ev_th, ev_kd, ev_md, ev_lc, ev_vl, ev_ex, grC_len, grC_one, grC_all, gr_locs, gr_evs, gr_rf, gr_co, gr_rmw, gr_data, gr_ctrl, gr_ctrli, frz_gr, frz_ev, vis_gr, vis_ev, splice_ev, evsC_len, coC_len, o_raw, vRaw_fn, res_0, retP_nrm, retP_ret, o_mget, vMget_S, mgS_map, o_mkmap, o_mput, vMput_S, mpS_map, mpO_none, part_22, e0, e4, e3, hk1, h41]
          refine W_loop (fun q e g => ∃ j : Nat, ∃ bars t1 t2, q = 6 - j ∧ (j : Int) ≤ p ∧ e 0 = .sl (intsC sizes) sizes.length t ∧ e 4 = .i .i64 k ∧ e 5 = .i .i64 j ∧ e 3 = .mp 7 0 ∧ g.hp 7 = some (.cells (grT (thrX bars) t1 t2) false) ∧ Live g 6 t1 ∧ Live g 1 t2 ∧ (∀ i, t1 ≠ .own i 6 ∨ t2 ≠ .own i 1) ∧ bars.length ≤ 5 * k + j ∧ 7 < g.nx) 6 ?_ ?_
          · refine ⟨0, bars, t1, t2, rfl, by omega, ?_⟩
            simp (disch := omega) only [W_skip, W_ext, W_ret, W_seq, thenQ_nrm, thenQ_ext, thenQ_ret, W_cond, selW_true, selW_false, W_blk, blkQ_nrm, blkQ_ret, blkQ_same, blkQ_ne, W_reg, nrmQ_is, WR_nil, WR_cons, selO_true, selO_false, bindO_some, loopQ_nrm, loopQ_ext, loopQ_ret, wanted_none, wanted_some, wantV_1, wantV_0, wantV_undef, ev_t, ev_c, put_some, put_none, upd_same, upd_ne, List.length_cons, List.length_nil, List.map_cons, List.map_nil, allow_no, allow_lt, argEnv_0, argEnv_1, argEnv_2, argEnv_3, argEnv_4, argEnv_5, res_1, res_2, retQ_nrm, retQ_ret, o_mv, o_pick, vPick_t, vPick_f, o_new, o_box, vBox_S, boxD_ok, vMap_some, vMapL_some, o_build, o_ld, vLd_ptr, vLd_S, ldS_ok, selB_true, o_st, vSt_S, stS_ok, stD_ok, o_nilck, vNil_ptr, vNil_mp, vNil_fn, o_bin, o_un, o_mkfn, o_fa, vFa_mp, vFa_S, faD_ok, o_fld, vFld_agg, o_ia, vIa_sl, vIa_ms, o_iaa, vIaa_ptr, vIaa_mp, o_len, vLen_sl, vLen_ms, o_mx, o_mn, vMx_i, vMn_i, o_ext, vExt_tup, b_add, b_sub, b_mul, b_lss, b_leq, b_gtr, b_geq, b_eql, b_neq, o_pure, List.nil_append, List.append_nil, List.cons_append, frz_d_i, frz_d_b, frz_d_s, frz_d_nilp, frz_d_ptr, frz_d_sl, frz_d_fn0, Bool.not_true, Bool.not_false, Bool.true_and, Bool.and_true, Bool.false_and, Bool.and_false, decide_true, decide_false, beq_self_eq_true, Bool.true_eq_false, Bool.false_eq_true, Nat.zero_add, Nat.add_zero, Int.toNat_natCast, ge_iff_le, gt_iff_lt, fill_S, fillD_ok, fill_nil, cellsOf_agg, cellsOf_i, cellsOf_b, cellsOf_s, cellsOf_ptr, cellsOf_nilp, cellsOf_sl, cellsOf_mp, cellsOf_fn, one_i, one_b, one_s, one_ptr, one_nilp, one_sl, one_mp, one_fn, List.all_cons, List.all_nil, splice_1, splice_2, splice_3, part_0, part_1, part_2, drop_0, g0_nx, g0_hp, List.set_cons_zero, List.set_cons_succ, List.length_append, List.length_replicate, Nat.reduceAdd, Nat.reduceMul, Nat.reduceSub, eq_self, true_and, and_true, vPure_S, purS_some, purD_some, purE_true, frzL_cons, frzL_nil, consO_ok, flat_i, flat_b, flat_s, flat_nilp, flat_ptr, flat_sl, flat_agg, flat_tup, vis_i, vis_b, vis_s, vis_nilp, vis_ptr, vis_sl, vis_fn0, List.flatMap_cons, List.flatMap_nil, isEmpty_nil, Bool.true_or, Bool.false_or, Bool.or_true, Bool.or_false, frz_P, frz_Q, frzP_cells, frzB_true, map_some', rd_S, o_bsl, vBsl_t, vBsl_f, o_app, appD_ok, vApp_rig, vApp_rig0, appK_ok, vApp_own, o_eqn, o_eqb, o_eqa, aeqn_pn, aeqn_np, aeqn_mn, aeqn_nn, aeqb_bb, negb_t, negb_f, aun_not, midQ_nrm, e0, e4, e3]
            refine ⟨rfl, hg, ?_, ?_, hne, by omega, by first | omega | (dsimp only; omega)⟩
            · rcases L1 with rfl | ⟨τ, rfl, hτ, hlt⟩
              · exact .inl rfl
              · exact .inr ⟨τ, rfl, hτ, by first | omega | (dsimp only; omega)⟩
            · rcases L2 with rfl | ⟨τ, rfl, hτ, hlt⟩
              · exact .inl rfl
              · exact .inr ⟨τ, rfl, hτ, by first | omega | (dsimp only; omega)⟩
          · rintro q e g ⟨j, bars, t1, t2, rfl, hj, e0, e4, e5, e3, hg, L1, L2, hne, hbl, hnx⟩
            by_cases hj' : (j : Int) < p
            · have hwj := succ_wrap (k := j) (by omega)
              have hlen := evsC_len (thrX bars).evs
              have hlr : (intsC (thrX bars).rf).length = (thrX bars).rf.length := by simp [intsC]
              unfold grT at hg
              have hj6 : j < 6 := by omega
              have hgr : ∀ (b : Int) (t1 t2 : Tok), grT (thrX (bars ++ [b])) t1 t2 = [.i .i64 (thrX bars).locs, .sl (evsC (thrX bars).evs ++ evC (barE b)) ((thrX bars).evs.length + 1) t1, .sl (intsC (thrX bars).rf ++ [.i .i64 (-1)]) ((thrX bars).rf.length + 1) t2, .sl (coC (thrX bars).co) (thrX bars).co.length .rig, .sl [] 0 .rig, .sl [] 0 .rig, .sl [] 0 .rig, .sl [] 0 .rig] := by
                intro b t1 t2
                simp [grT, thrX, evsC, intsC, coC]
              have hbe : ∀ b : Int, evC (barE b) = [.i .i64 b, .i .i64 3, .i .i64 1, .i .i64 0, .i .i64 0, .b false] := fun _ => rfl
              have hml : (thrX bars).evs.length ≤ 100 := by simp [thrX]; omega
              have hrl : (thrX bars).rf.length ≤ 100 := by simp [thrX]; omega
              rcases L1 with rfl | ⟨τ1, rfl, hτ1, hlt1⟩
              · rcases L2 with rfl | ⟨τ2, rfl, hτ2, hlt2⟩
                · simp (disch := omega) only [W_skip, W_ext, W_ret, W_seq, thenQ_nrm, thenQ_ext, thenQ_ret, W_cond, selW_true, selW_false, W_blk, blkQ_nrm, blkQ_ret, blkQ_same, blkQ_ne, W_reg, nrmQ_is, WR_nil, WR_cons, selO_true, selO_false, bindO_some, loopQ_nrm, loopQ_ext, loopQ_ret, wanted_none, wanted_some, wantV_1, wantV_0, wantV_undef, ev_t, ev_c, put_some, put_none, upd_same, upd_ne, List.length_cons, List.length_nil, List.map_cons, List.map_nil, allow_no, allow_lt, argEnv_0, argEnv_1, argEnv_2, argEnv_3, argEnv_4, argEnv_5, res_1, res_2, retQ_nrm, retQ_ret, o_mv, o_pick, vPick_t, vPick_f, o_new, o_box, vBox_S, boxD_ok, vMap_some, vMapL_some, o_build, o_ld, vLd_ptr, vLd_S, ldS_ok, selB_true, o_st, vSt_S, stS_ok, stD_ok, o_nilck, vNil_ptr, vNil_mp, vNil_fn, o_bin, o_un, o_mkfn, o_fa, vFa_mp, vFa_S, faD_ok, o_fld, vFld_agg, o_ia, vIa_sl, vIa_ms, o_iaa, vIaa_ptr, vIaa_mp, o_len, vLen_sl, vLen_ms, o_mx, o_mn, vMx_i, vMn_i, o_ext, vExt_tup, b_add, b_sub, b_mul, b_lss, b_leq, b_gtr, b_geq, b_eql, b_neq, o_pure, List.nil_append, List.append_nil, List.cons_append, frz_d_i, frz_d_b, frz_d_s, frz_d_nilp, frz_d_ptr, frz_d_sl, frz_d_fn0, Bool.not_true, Bool.not_false, Bool.true_and, Bool.and_true, Bool.false_and, Bool.and_false, decide_true, decide_false, beq_self_eq_true, Bool.true_eq_false, Bool.false_eq_true, Nat.zero_add, Nat.add_zero, Int.toNat_natCast, ge_iff_le, gt_iff_lt, fill_S, fillD_ok, fill_nil, cellsOf_agg, cellsOf_i, cellsOf_b, cellsOf_s, cellsOf_ptr, cellsOf_nilp, cellsOf_sl, cellsOf_mp, cellsOf_fn, one_i, one_b, one_s, one_ptr, one_nilp, one_sl, one_mp, one_fn, List.all_cons, List.all_nil, splice_1, splice_2, splice_3, part_0, part_1, part_2, drop_0, g0_nx, g0_hp, List.set_cons_zero, List.set_cons_succ, List.length_append, List.length_replicate, Nat.reduceAdd, Nat.reduceMul, Nat.reduceSub, eq_self, true_and, and_true, vPure_S, purS_some, purD_some, purE_true, frzL_cons, frzL_nil, consO_ok, flat_i, flat_b, flat_s, flat_nilp, flat_ptr, flat_sl, flat_agg, flat_tup, vis_i, vis_b, vis_s, vis_nilp, vis_ptr, vis_sl, vis_fn0, List.flatMap_cons, List.flatMap_nil, isEmpty_nil, Bool.true_or, Bool.false_or, Bool.or_true, Bool.or_false, frz_P, frz_Q, frzP_cells, frzB_true, map_some', rd_S, o_bsl, vBsl_t, vBsl_f, o_app, appD_ok, vApp_rig, vApp_rig0, appK_ok, vApp_own, o_eqn, o_eqb, o_eqa, aeqn_pn, aeqn_np, aeqn_mn, aeqn_nn, aeqb_bb, negb_t, negb_f, aun_not, midQ_nrm, evC_len, evC_one, evC_flat, evC_all, ev_th, ev_kd, ev_md, ev_lc, ev_vl, ev_ex, grC_len, grC_one, grC_all, gr_locs, gr_evs, gr_rf, gr_co, gr_rmw, gr_data, gr_ctrl, gr_ctrli, frz_gr, frz_ev, vis_gr, vis_ev, splice_ev, evsC_len, coC_len, o_raw, vRaw_fn, res_0, retP_nrm, retP_ret, o_mget, vMget_S, mgS_map, o_mkmap, o_mput, vMput_S, mpS_map, mpO_none, part_22, e0, e4, e5, e3, hip, hk1, hpl, hj', hg, hwk, hwj, hlr, List.length_set, s6, hlen]
                  refine ⟨6 - (j + 1), by omega, j + 1, bars ++ [((k + 1 : Nat) : Int)], .own (g.nx + 7 + 6) 6, .own (g.nx + 7 + 10) 1, rfl, by omega, rfl, by rw [hgr, hbe], .inr ⟨_, rfl, by simp (disch := omega) only [upd_same, upd_ne], by first | omega | (dsimp only; omega)⟩, .inr ⟨_, rfl, by simp (disch := omega) only [upd_same, upd_ne], by first | omega | (dsimp only; omega)⟩, fun i => ?_, by rw [List.length_append, List.length_singleton]; omega, by first | omega | (dsimp only; omega)⟩
                  by_cases hi : i = g.nx + 7 + 6
                  · exact .inr (fun h => by injection h with h; omega)
                  · exact .inl (fun h => by injection h with h; omega)
                · have m2 : τ2 ≠ 7 := fun h => by rw [h, hg] at hτ2; cases hτ2
                  simp (disch := omega) only [W_skip, W_ext, W_ret, W_seq, thenQ_nrm, thenQ_ext, thenQ_ret, W_cond, selW_true, selW_false, W_blk, blkQ_nrm, blkQ_ret, blkQ_same, blkQ_ne, W_reg, nrmQ_is, WR_nil, WR_cons, selO_true, selO_false, bindO_some, loopQ_nrm, loopQ_ext, loopQ_ret, wanted_none, wanted_some, wantV_1, wantV_0, wantV_undef, ev_t, ev_c, put_some, put_none, upd_same, upd_ne, List.length_cons, List.length_nil, List.map_cons, List.map_nil, allow_no, allow_lt, argEnv_0, argEnv_1, argEnv_2, argEnv_3, argEnv_4, argEnv_5, res_1, res_2, retQ_nrm, retQ_ret, o_mv, o_pick, vPick_t, vPick_f, o_new, o_box, vBox_S, boxD_ok, vMap_some, vMapL_some, o_build, o_ld, vLd_ptr, vLd_S, ldS_ok, selB_true, o_st, vSt_S, stS_ok, stD_ok, o_nilck, vNil_ptr, vNil_mp, vNil_fn, o_bin, o_un, o_mkfn, o_fa, vFa_mp, vFa_S, faD_ok, o_fld, vFld_agg, o_ia, vIa_sl, vIa_ms, o_iaa, vIaa_ptr, vIaa_mp, o_len, vLen_sl, vLen_ms, o_mx, o_mn, vMx_i, vMn_i, o_ext, vExt_tup, b_add, b_sub, b_mul, b_lss, b_leq, b_gtr, b_geq, b_eql, b_neq, o_pure, List.nil_append, List.append_nil, List.cons_append, frz_d_i, frz_d_b, frz_d_s, frz_d_nilp, frz_d_ptr, frz_d_sl, frz_d_fn0, Bool.not_true, Bool.not_false, Bool.true_and, Bool.and_true, Bool.false_and, Bool.and_false, decide_true, decide_false, beq_self_eq_true, Bool.true_eq_false, Bool.false_eq_true, Nat.zero_add, Nat.add_zero, Int.toNat_natCast, ge_iff_le, gt_iff_lt, fill_S, fillD_ok, fill_nil, cellsOf_agg, cellsOf_i, cellsOf_b, cellsOf_s, cellsOf_ptr, cellsOf_nilp, cellsOf_sl, cellsOf_mp, cellsOf_fn, one_i, one_b, one_s, one_ptr, one_nilp, one_sl, one_mp, one_fn, List.all_cons, List.all_nil, splice_1, splice_2, splice_3, part_0, part_1, part_2, drop_0, g0_nx, g0_hp, List.set_cons_zero, List.set_cons_succ, List.length_append, List.length_replicate, Nat.reduceAdd, Nat.reduceMul, Nat.reduceSub, eq_self, true_and, and_true, vPure_S, purS_some, purD_some, purE_true, frzL_cons, frzL_nil, consO_ok, flat_i, flat_b, flat_s, flat_nilp, flat_ptr, flat_sl, flat_agg, flat_tup, vis_i, vis_b, vis_s, vis_nilp, vis_ptr, vis_sl, vis_fn0, List.flatMap_cons, List.flatMap_nil, isEmpty_nil, Bool.true_or, Bool.false_or, Bool.or_true, Bool.or_false, frz_P, frz_Q, frzP_cells, frzB_true, map_some', rd_S, o_bsl, vBsl_t, vBsl_f, o_app, appD_ok, vApp_rig, vApp_rig0, appK_ok, vApp_own, o_eqn, o_eqb, o_eqa, aeqn_pn, aeqn_np, aeqn_mn, aeqn_nn, aeqb_bb, negb_t, negb_f, aun_not, midQ_nrm, evC_len, evC_one, evC_flat, evC_all, ev_th, ev_kd, ev_md, ev_lc, ev_vl, ev_ex, grC_len, grC_one, grC_all, gr_locs, gr_evs, gr_rf, gr_co, gr_rmw, gr_data, gr_ctrl, gr_ctrli, frz_gr, frz_ev, vis_gr, vis_ev, splice_ev, evsC_len, coC_len, o_raw, vRaw_fn, res_0, retP_nrm, retP_ret, o_mget, vMget_S, mgS_map, o_mkmap, o_mput, vMput_S, mpS_map, mpO_none, part_22, e0, e4, e5, e3, hip, hk1, hpl, hj', hg, hwk, hwj, hlr, List.length_set, s6, hlen, hτ2]
                  refine ⟨6 - (j + 1), by omega, j + 1, bars ++ [((k + 1 : Nat) : Int)], .own (g.nx + 7 + 6) 6, .own (g.nx + 7 + 10) 1, rfl, by omega, rfl, by rw [hgr, hbe], .inr ⟨_, rfl, by simp (disch := omega) only [upd_same, upd_ne], by first | omega | (dsimp only; omega)⟩, .inr ⟨_, rfl, by simp (disch := omega) only [upd_same, upd_ne], by first | omega | (dsimp only; omega)⟩, fun i => ?_, by rw [List.length_append, List.length_singleton]; omega, by first | omega | (dsimp only; omega)⟩
                  by_cases hi : i = g.nx + 7 + 6
                  · exact .inr (fun h => by injection h with h; omega)
                  · exact .inl (fun h => by injection h with h; omega)
              · have m1 : τ1 ≠ 7 := fun h => by rw [h, hg] at hτ1; cases hτ1
                rcases L2 with rfl | ⟨τ2, rfl, hτ2, hlt2⟩
                · simp (disch := omega) only [W_skip, W_ext, W_ret, W_seq, thenQ_nrm, thenQ_ext, thenQ_ret, W_cond, selW_true, selW_false, W_blk, blkQ_nrm, blkQ_ret, blkQ_same, blkQ_ne, W_reg, nrmQ_is, WR_nil, WR_cons, selO_true, selO_false, bindO_some, loopQ_nrm, loopQ_ext, loopQ_ret, wanted_none, wanted_some, wantV_1, wantV_0, wantV_undef, ev_t, ev_c, put_some, put_none, upd_same, upd_ne, List.length_cons, List.length_nil, List.map_cons, List.map_nil, allow_no, allow_lt, argEnv_0, argEnv_1, argEnv_2, argEnv_3, argEnv_4, argEnv_5, res_1, res_2, retQ_nrm, retQ_ret, o_mv, o_pick, vPick_t, vPick_f, o_new, o_box, vBox_S, boxD_ok, vMap_some, vMapL_some, o_build, o_ld, vLd_ptr, vLd_S, ldS_ok, selB_true, o_st, vSt_S, stS_ok, stD_ok, o_nilck, vNil_ptr, vNil_mp, vNil_fn, o_bin, o_un, o_mkfn, o_fa, vFa_mp, vFa_S, faD_ok, o_fld, vFld_agg, o_ia, vIa_sl, vIa_ms, o_iaa, vIaa_ptr, vIaa_mp, o_len, vLen_sl, vLen_ms, o_mx, o_mn, vMx_i, vMn_i, o_ext, vExt_tup, b_add, b_sub, b_mul, b_lss, b_leq, b_gtr, b_geq, b_eql, b_neq, o_pure, List.nil_append, List.append_nil, List.cons_append, frz_d_i, frz_d_b, frz_d_s, frz_d_nilp, frz_d_ptr, frz_d_sl, frz_d_fn0, Bool.not_true, Bool.not_false, Bool.true_and, Bool.and_true, Bool.false_and, Bool.and_false, decide_true, decide_false, beq_self_eq_true, Bool.true_eq_false, Bool.false_eq_true, Nat.zero_add, Nat.add_zero, Int.toNat_natCast, ge_iff_le, gt_iff_lt, fill_S, fillD_ok, fill_nil, cellsOf_agg, cellsOf_i, cellsOf_b, cellsOf_s, cellsOf_ptr, cellsOf_nilp, cellsOf_sl, cellsOf_mp, cellsOf_fn, one_i, one_b, one_s, one_ptr, one_nilp, one_sl, one_mp, one_fn, List.all_cons, List.all_nil, splice_1, splice_2, splice_3, part_0, part_1, part_2, drop_0, g0_nx, g0_hp, List.set_cons_zero, List.set_cons_succ, List.length_append, List.length_replicate, Nat.reduceAdd, Nat.reduceMul, Nat.reduceSub, eq_self, true_and, and_true, vPure_S, purS_some, purD_some, purE_true, frzL_cons, frzL_nil, consO_ok, flat_i, flat_b, flat_s, flat_nilp, flat_ptr, flat_sl, flat_agg, flat_tup, vis_i, vis_b, vis_s, vis_nilp, vis_ptr, vis_sl, vis_fn0, List.flatMap_cons, List.flatMap_nil, isEmpty_nil, Bool.true_or, Bool.false_or, Bool.or_true, Bool.or_false, frz_P, frz_Q, frzP_cells, frzB_true, map_some', rd_S, o_bsl, vBsl_t, vBsl_f, o_app, appD_ok, vApp_rig, vApp_rig0, appK_ok, vApp_own, o_eqn, o_eqb, o_eqa, aeqn_pn, aeqn_np, aeqn_mn, aeqn_nn, aeqb_bb, negb_t, negb_f, aun_not, midQ_nrm, evC_len, evC_one, evC_flat, evC_all, ev_th, ev_kd, ev_md, ev_lc, ev_vl, ev_ex, grC_len, grC_one, grC_all, gr_locs, gr_evs, gr_rf, gr_co, gr_rmw, gr_data, gr_ctrl, gr_ctrli, frz_gr, frz_ev, vis_gr, vis_ev, splice_ev, evsC_len, coC_len, o_raw, vRaw_fn, res_0, retP_nrm, retP_ret, o_mget, vMget_S, mgS_map, o_mkmap, o_mput, vMput_S, mpS_map, mpO_none, part_22, e0, e4, e5, e3, hip, hk1, hpl, hj', hg, hwk, hwj, hlr, List.length_set, s6, hlen, hτ1]
                  refine ⟨6 - (j + 1), by omega, j + 1, bars ++ [((k + 1 : Nat) : Int)], .own (g.nx + 7 + 6) 6, .own (g.nx + 7 + 10) 1, rfl, by omega, rfl, by rw [hgr, hbe], .inr ⟨_, rfl, by simp (disch := omega) only [upd_same, upd_ne], by first | omega | (dsimp only; omega)⟩, .inr ⟨_, rfl, by simp (disch := omega) only [upd_same, upd_ne], by first | omega | (dsimp only; omega)⟩, fun i => ?_, by rw [List.length_append, List.length_singleton]; omega, by first | omega | (dsimp only; omega)⟩
                  by_cases hi : i = g.nx + 7 + 6
                  · exact .inr (fun h => by injection h with h; omega)
                  · exact .inl (fun h => by injection h with h; omega)
                · have m2 : τ2 ≠ 7 := fun h => by rw [h, hg] at hτ2; cases hτ2
                  have m12 : τ2 ≠ τ1 := fun h => by rcases hne τ1 with h' | h' <;> apply h' <;> first | rfl | rw [h]
                  simp (disch := omega) only [W_skip, W_ext, W_ret, W_seq, thenQ_nrm, thenQ_ext, thenQ_ret, W_cond, selW_true, selW_false, W_blk, blkQ_nrm, blkQ_ret, blkQ_same, blkQ_ne, W_reg, nrmQ_is, WR_nil, WR_cons, selO_true, selO_false, bindO_some, loopQ_nrm, loopQ_ext, loopQ_ret, wanted_none, wanted_some, wantV_1, wantV_0, wantV_undef, ev_t, ev_c, put_some, put_none, upd_same, upd_ne, List.length_cons, List.length_nil, List.map_cons, List.map_nil, allow_no, allow_lt, argEnv_0, argEnv_1, argEnv_2, argEnv_3, argEnv_4, argEnv_5, res_1, res_2, retQ_nrm, retQ_ret, o_mv, o_pick, vPick_t, vPick_f, o_new, o_box, vBox_S, boxD_ok, vMap_some, vMapL_some, o_build, o_ld, vLd_ptr, vLd_S, ldS_ok, selB_true, o_st, vSt_S, stS_ok, stD_ok, o_nilck, vNil_ptr, vNil_mp, vNil_fn, o_bin, o_un, o_mkfn, o_fa, vFa_mp, vFa_S, faD_ok, o_fld, vFld_agg, o_ia, vIa_sl, vIa_ms, o_iaa, vIaa_ptr, vIaa_mp, o_len, vLen_sl, vLen_ms, o_mx, o_mn, vMx_i, vMn_i, o_ext, vExt_tup, b_add, b_sub, b_mul, b_lss, b_leq, b_gtr, b_geq, b_eql, b_neq, o_pure, List.nil_append, List.append_nil, List.cons_append, frz_d_i, frz_d_b, frz_d_s, frz_d_nilp, frz_d_ptr, frz_d_sl, frz_d_fn0, Bool.not_true, Bool.not_false, Bool.true_and, Bool.and_true, Bool.false_and, Bool.and_false, decide_true, decide_false, beq_self_eq_true, Bool.true_eq_false, Bool.false_eq_true, Nat.zero_add, Nat.add_zero, Int.toNat_natCast, ge_iff_le, gt_iff_lt, fill_S, fillD_ok, fill_nil, cellsOf_agg, cellsOf_i, cellsOf_b, cellsOf_s, cellsOf_ptr, cellsOf_nilp, cellsOf_sl, cellsOf_mp, cellsOf_fn, one_i, one_b, one_s, one_ptr, one_nilp, one_sl, one_mp, one_fn, List.all_cons, List.all_nil, splice_1, splice_2, splice_3, part_0, part_1, part_2, drop_0, g0_nx, g0_hp, List.set_cons_zero, List.set_cons_succ, List.length_append, List.length_replicate, Nat.reduceAdd, Nat.reduceMul, Nat.reduceSub, eq_self, true_and, and_true, vPure_S, purS_some, purD_some, purE_true, frzL_cons, frzL_nil, consO_ok, flat_i, flat_b, flat_s, flat_nilp, flat_ptr, flat_sl, flat_agg, flat_tup, vis_i, vis_b, vis_s, vis_nilp, vis_ptr, vis_sl, vis_fn0, List.flatMap_cons, List.flatMap_nil, isEmpty_nil, Bool.true_or, Bool.false_or, Bool.or_true, Bool.or_false, frz_P, frz_Q, frzP_cells, frzB_true, map_some', rd_S, o_bsl, vBsl_t, vBsl_f, o_app, appD_ok, vApp_rig, vApp_rig0, appK_ok, vApp_own, o_eqn, o_eqb, o_eqa, aeqn_pn, aeqn_np, aeqn_mn, aeqn_nn, aeqb_bb, negb_t, negb_f, aun_not, midQ_nrm, evC_len, evC_one, evC_flat, evC_all, ev_th, ev_kd, ev_md, ev_lc, ev_vl, ev_ex, grC_len, grC_one, grC_all, gr_locs, gr_evs, gr_rf, gr_co, gr_rmw, gr_data, gr_ctrl, gr_ctrli, frz_gr, frz_ev, vis_gr, vis_ev, splice_ev, evsC_len, coC_len, o_raw, vRaw_fn, res_0, retP_nrm, retP_ret, o_mget, vMget_S, mgS_map, o_mkmap, o_mput, vMput_S, mpS_map, mpO_none, part_22, e0, e4, e5, e3, hip, hk1, hpl, hj', hg, hwk, hwj, hlr, List.length_set, s6, hlen, hτ1, hτ2]
                  refine ⟨6 - (j + 1), by omega, j + 1, bars ++ [((k + 1 : Nat) : Int)], .own (g.nx + 7 + 6) 6, .own (g.nx + 7 + 10) 1, rfl, by omega, rfl, by rw [hgr, hbe], .inr ⟨_, rfl, by simp (disch := omega) only [upd_same, upd_ne], by first | omega | (dsimp only; omega)⟩, .inr ⟨_, rfl, by simp (disch := omega) only [upd_same, upd_ne], by first | omega | (dsimp only; omega)⟩, fun i => ?_, by rw [List.length_append, List.length_singleton]; omega, by first | omega | (dsimp only; omega)⟩
                  by_cases hi : i = g.nx + 7 + 6
                  · exact .inr (fun h => by injection h with h; omega)
                  · exact .inl (fun h => by injection h with h; omega)
            · simp (disch := omega) only [W_skip, W_ext, W_ret, W_seq, thenQ_nrm, thenQ_ext, thenQ_ret, W_cond, selW_true, selW_false, W_blk, blkQ_nrm, blkQ_ret, blkQ_same, blkQ_ne, W_reg, nrmQ_is, WR_nil, WR_cons, selO_true, selO_false, bindO_some, loopQ_nrm, loopQ_ext, loopQ_ret, wanted_none, wanted_some, wantV_1, wantV_0, wantV_undef, ev_t, ev_c, put_some, put_none, upd_same, upd_ne, List.length_cons, List.length_nil, List.map_cons, List.map_nil, allow_no, allow_lt, argEnv_0, argEnv_1, argEnv_2, argEnv_3, argEnv_4, argEnv_5, res_1, res_2, retQ_nrm, retQ_ret, o_mv, o_pick, vPick_t, vPick_f, o_new, o_box, vBox_S, boxD_ok, vMap_some, vMapL_some, o_build, o_ld, vLd_ptr, vLd_S, ldS_ok, selB_true, o_st, vSt_S, stS_ok, stD_ok, o_nilck, vNil_ptr, vNil_mp, vNil_fn, o_bin, o_un, o_mkfn, o_fa, vFa_mp, vFa_S, faD_ok, o_fld, vFld_agg, o_ia, vIa_sl, vIa_ms, o_iaa, vIaa_ptr, vIaa_mp, o_len, vLen_sl, vLen_ms, o_mx, o_mn, vMx_i, vMn_i, o_ext, vExt_tup, b_add, b_sub, b_mul, b_lss, b_leq, b_gtr, b_geq, b_eql, b_neq, o_pure, List.nil_append, List.append_nil, List.cons_append, frz_d_i, frz_d_b, frz_d_s, frz_d_nilp, frz_d_ptr, frz_d_sl, frz_d_fn0, Bool.not_true, Bool.not_false, Bool.true_and, Bool.and_true, Bool.false_and, Bool.and_false, decide_true, decide_false, beq_self_eq_true, Bool.true_eq_false, Bool.false_eq_true, Nat.zero_add, Nat.add_zero, Int.toNat_natCast, ge_iff_le, gt_iff_lt, fill_S, fillD_ok, fill_nil, cellsOf_agg, cellsOf_i, cellsOf_b, cellsOf_s, cellsOf_ptr, cellsOf_nilp, cellsOf_sl, cellsOf_mp, cellsOf_fn, one_i, one_b, one_s, one_ptr, one_nilp, one_sl, one_mp, one_fn, List.all_cons, List.all_nil, splice_1, splice_2, splice_3, part_0, part_1, part_2, drop_0, g0_nx, g0_hp, List.set_cons_zero, List.set_cons_succ, List.length_append, List.length_replicate, Nat.reduceAdd, Nat.reduceMul, Nat.reduceSub, eq_self, true_and, and_true, vPure_S, purS_some, purD_some, purE_true, frzL_cons, frzL_nil, consO_ok, flat_i, flat_b, flat_s, flat_nilp, flat_ptr, flat_sl, flat_agg, flat_tup, vis_i, vis_b, vis_s, vis_nilp, vis_ptr, vis_sl, vis_fn0, List.flatMap_cons, List.flatMap_nil, isEmpty_nil, Bool.true_or, Bool.false_or, Bool.or_true, Bool.or_false, frz_P, frz_Q, frzP_cells, frzB_true, map_some', rd_S, o_bsl, vBsl_t, vBsl_f, o_app, appD_ok, vApp_rig, vApp_rig0, appK_ok, vApp_own, o_eqn, o_eqb, o_eqa, aeqn_pn, aeqn_np, aeqn_mn, aeqn_nn, aeqb_bb, negb_t, negb_f, aun_not, midQ_nrm, evC_len, evC_one, evC_flat, evC_all, ev_th, ev_kd, ev_md, ev_lc, ev_vl, ev_ex, grC_len, grC_one, grC_all, gr_locs, gr_evs, gr_rf, gr_co, gr_rmw, gr_data, gr_ctrl, gr_ctrli, frz_gr, frz_ev, vis_gr, vis_ev, splice_ev, evsC_len, coC_len, o_raw, vRaw_fn, res_0, retP_nrm, retP_ret, o_mget, vMget_S, mgS_map, o_mkmap, o_mput, vMput_S, mpS_map, mpO_none, part_22, e0, e4, e5, e3, hip, hk1, hpl, hj', hwk]
              refine ⟨sizes.length - (k + 1), by omega, k + 1, bars, t1, t2, rfl, by omega, by omega, rfl, hg, ?_, ?_, hne, by omega, by first | omega | (dsimp only; omega)⟩
              · rcases L1 with rfl | ⟨τ, rfl, hτ, hlt⟩
                · exact .inl rfl
                · exact .inr ⟨τ, rfl, hτ, by first | omega | (dsimp only; omega)⟩
              · rcases L2 with rfl | ⟨τ, rfl, hτ, hlt⟩
                · exact .inl rfl
                · exact .inr ⟨τ, rfl, hτ, by first | omega | (dsimp only; omega)⟩
        · have h41 : ¬ (k : Int) < 4 := by omega
          simp (disch := omega) only [W_skip, W_ext, W_ret, W_seq, thenQ_nrm, thenQ_ext, thenQ_ret, W_cond, selW_true, selW_false, W_blk, blkQ_nrm, blkQ_ret, blkQ_same, blkQ_ne, W_reg, nrmQ_is, WR_nil, WR_cons, selO_true, selO_false, bindO_some, loopQ_nrm, loopQ_ext, loopQ_ret, wanted_none, wanted_some, wantV_1, wantV_0, wantV_undef, ev_t, ev_c, put_some, put_none, upd_same, upd_ne, List.length_cons, List.length_nil, List.map_cons, List.map_nil, allow_no, allow_lt, argEnv_0, argEnv_1, argEnv_2, argEnv_3, argEnv_4, argEnv_5, res_1, res_2, retQ_nrm, retQ_ret, o_mv, o_pick, vPick_t, vPick_f, o_new, o_box, vBox_S, boxD_ok, vMap_some, vMapL_some, o_build, o_ld, vLd_ptr, vLd_S, ldS_ok, selB_true, o_st, vSt_S, stS_ok, stD_ok, o_nilck, vNil_ptr, vNil_mp, vNil_fn, o_bin, o_un, o_mkfn, o_fa, vFa_mp, vFa_S, faD_ok, o_fld, vFld_agg, o_ia, vIa_sl, vIa_ms, o_iaa, vIaa_ptr, vIaa_mp, o_len, vLen_sl, vLen_ms, o_mx, o_mn, vMx_i, vMn_i, o_ext, vExt_tup, b_add, b_sub, b_mul, b_lss, b_leq, b_gtr, b_geq, b_eql, b_neq, o_pure, List.nil_append, List.append_nil, List.cons_append, frz_d_i, frz_d_b, frz_d_s, frz_d_nilp, frz_d_ptr, frz_d_sl, frz_d_fn0, Bool.not_true, Bool.not_false, Bool.true_and, Bool.and_true, Bool.false_and, Bool.and_false, decide_true, decide_false, beq_self_eq_true, Bool.true_eq_false, Bool.false_eq_true, Nat.zero_add, Nat.add_zero, Int.toNat_natCast, ge_iff_le, gt_iff_lt, fill_S, fillD_ok, fill_nil, cellsOf_agg, cellsOf_i, cellsOf_b, cellsOf_s, cellsOf_ptr, cellsOf_nilp, cellsOf_sl, cellsOf_mp, cellsOf_fn, one_i, one_b, one_s, one_ptr, one_nilp, one_sl, one_mp, one_fn, List.all_cons, List.all_nil, splice_1, splice_2, splice_3, part_0, part_1, part_2, drop_0, g0_nx, g0_hp, List.set_cons_zero, List.set_cons_succ, List.length_append, List.length_replicate, Nat.reduceAdd, Nat.reduceMul, Nat.reduceSub, eq_self, true_and, and_true, vPure_S, purS_some, purD_some, purE_true, frzL_cons, frzL_nil, consO_ok, flat_i, flat_b, flat_s, flat_nilp, flat_ptr, flat_sl, flat_agg, flat_tup, vis_i, vis_b, vis_s, vis_nilp, vis_ptr, vis_sl, vis_fn0, List.flatMap_cons, List.flatMap_nil, isEmpty_nil, Bool.true_or, Bool.false_or, Bool.or_true, Bool.or_false, frz_P, frz_Q, frzP_cells, frzB_true, map_some', rd_S, o_bsl, vBsl_t, vBsl_f, o_app, appD_ok, vApp_rig, vApp_rig0, appK_ok, vApp_own, o_eqn, o_eqb, o_eqa, aeqn_pn, aeqn_np, aeqn_mn, aeqn_nn, aeqb_bb, negb_t, negb_f, aun_not, midQ_nrm, evC_len, evC_one, evC_flat, evC_all, ev_th, ev_kd, ev_md, ev_lc, ev_vl, ev_ex, grC_len, grC_one, grC_all, gr_locs, gr_evs, gr_rf, gr_co, gr_rmw, gr_data, gr_ctrl, gr_ctrli, frz_gr, frz_ev, vis_gr, vis_ev, splice_ev, evsC_len, coC_len, o_raw, vRaw_fn, res_0, retP_nrm, retP_ret, o_mget, vMget_S, mgS_map, o_mkmap, o_mput, vMput_S, mpS_map, mpO_none, part_22, e0, e4, e3, hk1, h41]
          exact ⟨bars, t1, t2, hg, by omega, by first | omega | (dsimp only; omega)⟩
      · have hk1 : ¬ (k : Int) < sizes.length := by omega
        simp (disch := omega) only [W_skip, W_ext, W_ret, W_seq, thenQ_nrm, thenQ_ext, thenQ_ret, W_cond, selW_true, selW_false, W_blk, blkQ_nrm, blkQ_ret, blkQ_same, blkQ_ne, W_reg, nrmQ_is, WR_nil, WR_cons, selO_true, selO_false, bindO_some, loopQ_nrm, loopQ_ext, loopQ_ret, wanted_none, wanted_some, wantV_1, wantV_0, wantV_undef, ev_t, ev_c, put_some, put_none, upd_same, upd_ne, List.length_cons, List.length_nil, List.map_cons, List.map_nil, allow_no, allow_lt, argEnv_0, argEnv_1, argEnv_2, argEnv_3, argEnv_4, argEnv_5, res_1, res_2, retQ_nrm, retQ_ret, o_mv, o_pick, vPick_t, vPick_f, o_new, o_box, vBox_S, boxD_ok, vMap_some, vMapL_some, o_build, o_ld, vLd_ptr, vLd_S, ldS_ok, selB_true, o_st, vSt_S, stS_ok, stD_ok, o_nilck, vNil_ptr, vNil_mp, vNil_fn, o_bin, o_un, o_mkfn, o_fa, vFa_mp, vFa_S, faD_ok, o_fld, vFld_agg, o_ia, vIa_sl, vIa_ms, o_iaa, vIaa_ptr, vIaa_mp, o_len, vLen_sl, vLen_ms, o_mx, o_mn, vMx_i, vMn_i, o_ext, vExt_tup, b_add, b_sub, b_mul, b_lss, b_leq, b_gtr, b_geq, b_eql, b_neq, o_pure, List.nil_append, List.append_nil, List.cons_append, frz_d_i, frz_d_b, frz_d_s, frz_d_nilp, frz_d_ptr, frz_d_sl, frz_d_fn0, Bool.not_true, Bool.not_false, Bool.true_and, Bool.and_true, Bool.false_and, Bool.and_false, decide_true, decide_false, beq_self_eq_true, Bool.true_eq_false, Bool.false_eq_true, Nat.zero_add, Nat.add_zero, Int.toNat_natCast, ge_iff_le, gt_iff_lt, fill_S, fillD_ok, fill_nil, cellsOf_agg, cellsOf_i, cellsOf_b, cellsOf_s, cellsOf_ptr, cellsOf_nilp, cellsOf_sl, cellsOf_mp, cellsOf_fn, one_i, one_b, one_s, one_ptr, one_nilp, one_sl, one_mp, one_fn, List.all_cons, List.all_nil, splice_1, splice_2, splice_3, part_0, part_1, part_2, drop_0, g0_nx, g0_hp, List.set_cons_zero, List.set_cons_succ, List.length_append, List.length_replicate, Nat.reduceAdd, Nat.reduceMul, Nat.reduceSub, eq_self, true_and, and_true, vPure_S, purS_some, purD_some, purE_true, frzL_cons, frzL_nil, consO_ok, flat_i, flat_b, flat_s, flat_nilp, flat_ptr, flat_sl, flat_agg, flat_tup, vis_i, vis_b, vis_s, vis_nilp, vis_ptr, vis_sl, vis_fn0, List.flatMap_cons, List.flatMap_nil, isEmpty_nil, Bool.true_or, Bool.false_or, Bool.or_true, Bool.or_false, frz_P, frz_Q, frzP_cells, frzB_true, map_some', rd_S, o_bsl, vBsl_t, vBsl_f, o_app, appD_ok, vApp_rig, vApp_rig0, appK_ok, vApp_own, o_eqn, o_eqb, o_eqa, aeqn_pn, aeqn_np, aeqn_mn, aeqn_nn, aeqb_bb, negb_t, negb_f, aun_not, midQ_nrm, evC_len, evC_one, evC_flat, evC_all, ev_th, ev_kd, ev_md, ev_lc, ev_vl, ev_ex, grC_len, grC_one, grC_all, gr_locs, gr_evs, gr_rf, gr_co, gr_rmw, gr_data, gr_ctrl, gr_ctrli, frz_gr, frz_ev, vis_gr, vis_ev, splice_ev, evsC_len, coC_len, o_raw, vRaw_fn, res_0, retP_nrm, retP_ret, o_mget, vMget_S, mgS_map, o_mkmap, o_mput, vMput_S, mpS_map, mpO_none, part_22, e0, e4, e3, hk1]
        exact ⟨bars, t1, t2, hg, by omega, by first | omega | (dsimp only; omega)⟩
  · rintro e g ⟨bars, t1, t2, e3, hg, hb, hnx⟩
    have hN := thr_nOf hb
    have hL := thr_len bars
    have hX := thr_few hb
    have hn := nOf_le (thrX bars)
    have pin := part_full (X := thrX bars) (by rw [hL]; omega) inner
    have pout := part_full (X := thrX bars) (by rw [hL]; omega) outer
    have peco := thr_eco hb
    have ploc := thr_loc hb
    have hfn := filter_not_len (thr_outer hb)
    have hci : ((fullK (bars.length + 1) (bars.length + 1)).filter (okP inner (thrX bars))).length = cnt (thrX bars) (bars.length + 1) (bars.length + 1) 0 := by unfold cnt; rw [fullL_0]
    have hkl : (fullK (bars.length + 1) (bars.length + 1)).length = (bars.length + 1) * (bars.length + 1) := by
      have := fullL_len (bars.length + 1) (bars.length + 1) 0; rwa [fullL_0] at this
    rw [hN] at pin pout
    have hfg := fun hp => frz_gt hp bars t1 t2
    have hvg := fun hp => vis_gt hp (thrX bars) t1 t2
    have hge := gt_evs (thrX bars) t1 t2
    have hga := gt_all (thrX bars) t1 t2
    have sLoc := sp_Loc pe h60 h81 pr (X := thrX bars) (by rw [hL]; omega)
    have sEco := sp_Eco pe h81 pr hX
    have sIn := fun R => sp_Inner pe h81 pr (X := thrX bars) hn R
    have sOut := fun R => sp_Outer pe h81 pr (X := thrX bars) hn R
    have hth : ∀ k, k < bars.length + 1 → part ((evsC (thrX bars).evs).drop (k * 6)) 0 none = some (.i .i64 ((thrX bars).evs.getD k ev0).th) := fun k hk => ev_th_at (by rw [hL]; exact hk)
    have hin : ∀ a b, a < bars.length + 1 → b < bars.length + 1 → okP inner (thrX bars) ((a : Int), (b : Int)) = (((thrX bars).evs.getD a ev0).th == ((thrX bars).evs.getD b ev0).th) := fun a b ha hb' => okP_in (by rw [hL]; exact ha) (by rw [hL]; exact hb')
    rw [hN] at sLoc sEco sIn sOut peco ploc
    have hgl : (grT (thrX bars) t1 t2).length = 8 := rfl
    have hcells : ∀ (P : Env → G → Prop), True := fun _ => trivial
    generalize hC : grT (thrX bars) t1 t2 = C at hg hfg hvg hge hga hgl
    rw [hL] at hge
    have hNN : (bars.length + 1) * (bars.length + 1) ≤ 21 * 21 := Nat.mul_le_mul (by omega) (by omega)
    have hcn := fun a j => cnt_le (thrX bars) (bars.length + 1) a j
    have hcs := fun a j => cnt_succ (thrX bars) (bars.length + 1) a j
    have hc0 := fun a => cnt_0 (thrX bars) (bars.length + 1) a
    have hcz : cnt (thrX bars) (bars.length + 1) 0 0 = 0 := by simp [cnt, fullL_0, fullK]
    generalize hM : bars.length + 1 = N at *
    generalize hY : thrX bars = X at *
    have hN21 : N ≤ 21 := by omega
    simp (disch := omega) only [W_skip, W_ext, W_ret, W_seq, thenQ_nrm, thenQ_ext, thenQ_ret, W_cond, selW_true, selW_false, W_blk, blkQ_nrm, blkQ_ret, blkQ_same, blkQ_ne, W_reg, nrmQ_is, WR_nil, WR_cons, selO_true, selO_false, bindO_some, loopQ_nrm, loopQ_ext, loopQ_ret, wanted_none, wanted_some, wantV_1, wantV_0, wantV_undef, ev_t, ev_c, put_some, put_none, upd_same, upd_ne, List.length_cons, List.length_nil, List.map_cons, List.map_nil, allow_no, allow_lt, argEnv_0, argEnv_1, argEnv_2, argEnv_3, argEnv_4, argEnv_5, res_1, res_2, retQ_nrm, retQ_ret, o_mv, o_pick, vPick_t, vPick_f, o_new, o_box, vBox_S, boxD_ok, vMap_some, vMapL_some, o_build, o_ld, vLd_ptr, vLd_S, ldS_ok, selB_true, o_st, vSt_S, stS_ok, stD_ok, o_nilck, vNil_ptr, vNil_mp, vNil_fn, o_bin, o_un, o_mkfn, o_fa, vFa_mp, vFa_S, faD_ok, o_fld, vFld_agg, o_ia, vIa_sl, vIa_ms, o_iaa, vIaa_ptr, vIaa_mp, o_len, vLen_sl, vLen_ms, o_mx, o_mn, vMx_i, vMn_i, o_ext, vExt_tup, b_add, b_sub, b_mul, b_lss, b_leq, b_gtr, b_geq, b_eql, b_neq, o_pure, List.nil_append, List.append_nil, List.cons_append, frz_d_i, frz_d_b, frz_d_s, frz_d_nilp, frz_d_ptr, frz_d_sl, frz_d_fn0, Bool.not_true, Bool.not_false, Bool.true_and, Bool.and_true, Bool.false_and, Bool.and_false, decide_true, decide_false, beq_self_eq_true, Bool.true_eq_false, Bool.false_eq_true, Nat.zero_add, Nat.add_zero, Int.toNat_natCast, ge_iff_le, gt_iff_lt, fill_S, fillD_ok, fill_nil, cellsOf_agg, cellsOf_i, cellsOf_b, cellsOf_s, cellsOf_ptr, cellsOf_nilp, cellsOf_sl, cellsOf_mp, cellsOf_fn, one_i, one_b, one_s, one_ptr, one_nilp, one_sl, one_mp, one_fn, List.all_cons, List.all_nil, splice_1, splice_2, splice_3, part_0, part_1, part_2, drop_0, g0_nx, g0_hp, List.set_cons_zero, List.set_cons_succ, List.length_append, List.length_replicate, Nat.reduceAdd, Nat.reduceMul, Nat.reduceSub, eq_self, true_and, and_true, vPure_S, purS_some, purD_some, purE_true, frzL_cons, frzL_nil, consO_ok, flat_i, flat_b, flat_s, flat_nilp, flat_ptr, flat_sl, flat_agg, flat_tup, vis_i, vis_b, vis_s, vis_nilp, vis_ptr, vis_sl, vis_fn0, List.flatMap_cons, List.flatMap_nil, isEmpty_nil, Bool.true_or, Bool.false_or, Bool.or_true, Bool.or_false, frz_P, frz_Q, frzP_cells, frzB_true, map_some', rd_S, o_bsl, vBsl_t, vBsl_f, o_app, appD_ok, vApp_rig, vApp_rig0, appK_ok, vApp_own, o_eqn, o_eqb, o_eqa, aeqn_pn, aeqn_np, aeqn_mn, aeqn_nn, aeqb_bb, negb_t, negb_f, aun_not, midQ_nrm]
    refine W_loop (fun q e g => ∃ a t3, q = N - a ∧ a ≤ N ∧ e 3 = .mp 7 0 ∧ g.hp 7 = some (.cells C false) ∧ e 8 = .i .i64 a ∧ e 7 = .i .i64 (cnt X N a 0 : Nat) ∧ e 6 = .sl (pairsC (fullL N a 0)) (fullL N a 0).length t3 ∧ Live g 2 t3 ∧ 7 < g.nx) N ?_ ?_
    · refine ⟨0, .rig, rfl, Nat.zero_le _, ?_⟩
      simp (disch := omega) only [W_skip, W_ext, W_ret, W_seq, thenQ_nrm, thenQ_ext, thenQ_ret, W_cond, selW_true, selW_false, W_blk, blkQ_nrm, blkQ_ret, blkQ_same, blkQ_ne, W_reg, nrmQ_is, WR_nil, WR_cons, selO_true, selO_false, bindO_some, loopQ_nrm, loopQ_ext, loopQ_ret, wanted_none, wanted_some, wantV_1, wantV_0, wantV_undef, ev_t, ev_c, put_some, put_none, upd_same, upd_ne, List.length_cons, List.length_nil, List.map_cons, List.map_nil, allow_no, allow_lt, argEnv_0, argEnv_1, argEnv_2, argEnv_3, argEnv_4, argEnv_5, res_1, res_2, retQ_nrm, retQ_ret, o_mv, o_pick, vPick_t, vPick_f, o_new, o_box, vBox_S, boxD_ok, vMap_some, vMapL_some, o_build, o_ld, vLd_ptr, vLd_S, ldS_ok, selB_true, o_st, vSt_S, stS_ok, stD_ok, o_nilck, vNil_ptr, vNil_mp, vNil_fn, o_bin, o_un, o_mkfn, o_fa, vFa_mp, vFa_S, faD_ok, o_fld, vFld_agg, o_ia, vIa_sl, vIa_ms, o_iaa, vIaa_ptr, vIaa_mp, o_len, vLen_sl, vLen_ms, o_mx, o_mn, vMx_i, vMn_i, o_ext, vExt_tup, b_add, b_sub, b_mul, b_lss, b_leq, b_gtr, b_geq, b_eql, b_neq, o_pure, List.nil_append, List.append_nil, List.cons_append, frz_d_i, frz_d_b, frz_d_s, frz_d_nilp, frz_d_ptr, frz_d_sl, frz_d_fn0, Bool.not_true, Bool.not_false, Bool.true_and, Bool.and_true, Bool.false_and, Bool.and_false, decide_true, decide_false, beq_self_eq_true, Bool.true_eq_false, Bool.false_eq_true, Nat.zero_add, Nat.add_zero, Int.toNat_natCast, ge_iff_le, gt_iff_lt, fill_S, fillD_ok, fill_nil, cellsOf_agg, cellsOf_i, cellsOf_b, cellsOf_s, cellsOf_ptr, cellsOf_nilp, cellsOf_sl, cellsOf_mp, cellsOf_fn, one_i, one_b, one_s, one_ptr, one_nilp, one_sl, one_mp, one_fn, List.all_cons, List.all_nil, splice_1, splice_2, splice_3, part_0, part_1, part_2, drop_0, g0_nx, g0_hp, List.set_cons_zero, List.set_cons_succ, List.length_append, List.length_replicate, Nat.reduceAdd, Nat.reduceMul, Nat.reduceSub, eq_self, true_and, and_true, vPure_S, purS_some, purD_some, purE_true, frzL_cons, frzL_nil, consO_ok, flat_i, flat_b, flat_s, flat_nilp, flat_ptr, flat_sl, flat_agg, flat_tup, vis_i, vis_b, vis_s, vis_nilp, vis_ptr, vis_sl, vis_fn0, List.flatMap_cons, List.flatMap_nil, isEmpty_nil, Bool.true_or, Bool.false_or, Bool.or_true, Bool.or_false, frz_P, frz_Q, frzP_cells, frzB_true, map_some', rd_S, o_bsl, vBsl_t, vBsl_f, o_app, appD_ok, vApp_rig, vApp_rig0, appK_ok, vApp_own, o_eqn, o_eqb, o_eqa, aeqn_pn, aeqn_np, aeqn_mn, aeqn_nn, aeqb_bb, negb_t, negb_f, aun_not, midQ_nrm, e3, hcz]
      exact ⟨hg, rfl, rfl, by rfl, .inl rfl, by first | omega | (dsimp only; omega)⟩
    · rintro q e g ⟨a, t3, rfl, ha, e3, hg, e8, e7, e6, L3, hnx⟩
      by_cases ha' : a < N
      · have ha1 : (a : Int) < N := by omega
        have hwa := succ_wrap (k := a) (by omega)
        simp (disch := omega) only [W_skip, W_ext, W_ret, W_seq, thenQ_nrm, thenQ_ext, thenQ_ret, W_cond, selW_true, selW_false, W_blk, blkQ_nrm, blkQ_ret, blkQ_same, blkQ_ne, W_reg, nrmQ_is, WR_nil, WR_cons, selO_true, selO_false, bindO_some, loopQ_nrm, loopQ_ext, loopQ_ret, wanted_none, wanted_some, wantV_1, wantV_0, wantV_undef, ev_t, ev_c, put_some, put_none, upd_same, upd_ne, List.length_cons, List.length_nil, List.map_cons, List.map_nil, allow_no, allow_lt, argEnv_0, argEnv_1, argEnv_2, argEnv_3, argEnv_4, argEnv_5, res_1, res_2, retQ_nrm, retQ_ret, o_mv, o_pick, vPick_t, vPick_f, o_new, o_box, vBox_S, boxD_ok, vMap_some, vMapL_some, o_build, o_ld, vLd_ptr, vLd_S, ldS_ok, selB_true, o_st, vSt_S, stS_ok, stD_ok, o_nilck, vNil_ptr, vNil_mp, vNil_fn, o_bin, o_un, o_mkfn, o_fa, vFa_mp, vFa_S, faD_ok, o_fld, vFld_agg, o_ia, vIa_sl, vIa_ms, o_iaa, vIaa_ptr, vIaa_mp, o_len, vLen_sl, vLen_ms, o_mx, o_mn, vMx_i, vMn_i, o_ext, vExt_tup, b_add, b_sub, b_mul, b_lss, b_leq, b_gtr, b_geq, b_eql, b_neq, o_pure, List.nil_append, List.append_nil, List.cons_append, frz_d_i, frz_d_b, frz_d_s, frz_d_nilp, frz_d_ptr, frz_d_sl, frz_d_fn0, Bool.not_true, Bool.not_false, Bool.true_and, Bool.and_true, Bool.false_and, Bool.and_false, decide_true, decide_false, beq_self_eq_true, Bool.true_eq_false, Bool.false_eq_true, Nat.zero_add, Nat.add_zero, Int.toNat_natCast, ge_iff_le, gt_iff_lt, fill_S, fillD_ok, fill_nil, cellsOf_agg, cellsOf_i, cellsOf_b, cellsOf_s, cellsOf_ptr, cellsOf_nilp, cellsOf_sl, cellsOf_mp, cellsOf_fn, one_i, one_b, one_s, one_ptr, one_nilp, one_sl, one_mp, one_fn, List.all_cons, List.all_nil, splice_1, splice_2, splice_3, part_0, part_1, part_2, drop_0, g0_nx, g0_hp, List.set_cons_zero, List.set_cons_succ, List.length_append, List.length_replicate, Nat.reduceAdd, Nat.reduceMul, Nat.reduceSub, eq_self, true_and, and_true, vPure_S, purS_some, purD_some, purE_true, frzL_cons, frzL_nil, consO_ok, flat_i, flat_b, flat_s, flat_nilp, flat_ptr, flat_sl, flat_agg, flat_tup, vis_i, vis_b, vis_s, vis_nilp, vis_ptr, vis_sl, vis_fn0, List.flatMap_cons, List.flatMap_nil, isEmpty_nil, Bool.true_or, Bool.false_or, Bool.or_true, Bool.or_false, frz_P, frz_Q, frzP_cells, frzB_true, map_some', rd_S, o_bsl, vBsl_t, vBsl_f, o_app, appD_ok, vApp_rig, vApp_rig0, appK_ok, vApp_own, o_eqn, o_eqb, o_eqa, aeqn_pn, aeqn_np, aeqn_mn, aeqn_nn, aeqb_bb, negb_t, negb_f, aun_not, midQ_nrm, e3, hg, e8, e7, e6, hge, ha1]
        refine W_loop (fun q e g => ∃ b t3, q = N - b ∧ b ≤ N ∧ e 3 = .mp 7 0 ∧ g.hp 7 = some (.cells C false) ∧ e 8 = .i .i64 a ∧ e 9 = .i .i64 b ∧ e 7 = .i .i64 (cnt X N a b : Nat) ∧ e 6 = .sl (pairsC (fullL N a b)) (fullL N a b).length t3 ∧ Live g 2 t3 ∧ 7 < g.nx) N ?_ ?_
        · refine ⟨0, t3, rfl, Nat.zero_le _, ?_⟩
          simp (disch := omega) only [W_skip, W_ext, W_ret, W_seq, thenQ_nrm, thenQ_ext, thenQ_ret, W_cond, selW_true, selW_false, W_blk, blkQ_nrm, blkQ_ret, blkQ_same, blkQ_ne, W_reg, nrmQ_is, WR_nil, WR_cons, selO_true, selO_false, bindO_some, loopQ_nrm, loopQ_ext, loopQ_ret, wanted_none, wanted_some, wantV_1, wantV_0, wantV_undef, ev_t, ev_c, put_some, put_none, upd_same, upd_ne, List.length_cons, List.length_nil, List.map_cons, List.map_nil, allow_no, allow_lt, argEnv_0, argEnv_1, argEnv_2, argEnv_3, argEnv_4, argEnv_5, res_1, res_2, retQ_nrm, retQ_ret, o_mv, o_pick, vPick_t, vPick_f, o_new, o_box, vBox_S, boxD_ok, vMap_some, vMapL_some, o_build, o_ld, vLd_ptr, vLd_S, ldS_ok, selB_true, o_st, vSt_S, stS_ok, stD_ok, o_nilck, vNil_ptr, vNil_mp, vNil_fn, o_bin, o_un, o_mkfn, o_fa, vFa_mp, vFa_S, faD_ok, o_fld, vFld_agg, o_ia, vIa_sl, vIa_ms, o_iaa, vIaa_ptr, vIaa_mp, o_len, vLen_sl, vLen_ms, o_mx, o_mn, vMx_i, vMn_i, o_ext, vExt_tup, b_add, b_sub, b_mul, b_lss, b_leq, b_gtr, b_geq, b_eql, b_neq, o_pure, List.nil_append, List.append_nil, List.cons_append, frz_d_i, frz_d_b, frz_d_s, frz_d_nilp, frz_d_ptr, frz_d_sl, frz_d_fn0, Bool.not_true, Bool.not_false, Bool.true_and, Bool.and_true, Bool.false_and, Bool.and_false, decide_true, decide_false, beq_self_eq_true, Bool.true_eq_false, Bool.false_eq_true, Nat.zero_add, Nat.add_zero, Int.toNat_natCast, ge_iff_le, gt_iff_lt, fill_S, fillD_ok, fill_nil, cellsOf_agg, cellsOf_i, cellsOf_b, cellsOf_s, cellsOf_ptr, cellsOf_nilp, cellsOf_sl, cellsOf_mp, cellsOf_fn, one_i, one_b, one_s, one_ptr, one_nilp, one_sl, one_mp, one_fn, List.all_cons, List.all_nil, splice_1, splice_2, splice_3, part_0, part_1, part_2, drop_0, g0_nx, g0_hp, List.set_cons_zero, List.set_cons_succ, List.length_append, List.length_replicate, Nat.reduceAdd, Nat.reduceMul, Nat.reduceSub, eq_self, true_and, and_true, vPure_S, purS_some, purD_some, purE_true, frzL_cons, frzL_nil, consO_ok, flat_i, flat_b, flat_s, flat_nilp, flat_ptr, flat_sl, flat_agg, flat_tup, vis_i, vis_b, vis_s, vis_nilp, vis_ptr, vis_sl, vis_fn0, List.flatMap_cons, List.flatMap_nil, isEmpty_nil, Bool.true_or, Bool.false_or, Bool.or_true, Bool.or_false, frz_P, frz_Q, frzP_cells, frzB_true, map_some', rd_S, o_bsl, vBsl_t, vBsl_f, o_app, appD_ok, vApp_rig, vApp_rig0, appK_ok, vApp_own, o_eqn, o_eqb, o_eqa, aeqn_pn, aeqn_np, aeqn_mn, aeqn_nn, aeqb_bb, negb_t, negb_f, aun_not, midQ_nrm, e3, e8, e7, e6]
          refine ⟨hg, rfl, ?_, by first | omega | (dsimp only; omega)⟩
          rcases L3 with rfl | ⟨τ, rfl, hτ, hlt⟩
          · exact .inl rfl
          · exact .inr ⟨τ, rfl, hτ, by first | omega | (dsimp only; omega)⟩
        · rintro q e g ⟨b, t3, rfl, hbN, e3, hg, e8, e9, e7, e6, L3, hnx⟩
          by_cases hb' : b < N
          · have hb1 : (b : Int) < N := by omega
            have hwb := succ_wrap (k := b) (by omega)
            have hta := hth a ha'
            have hda : (List.drop (a * 6) (evsC X.evs)).length = N * 6 - a * 6 := by rw [List.length_drop, evsC_len, hL]
            have hdb : (List.drop (b * 6) (evsC X.evs)).length = N * 6 - b * 6 := by rw [List.length_drop, evsC_len, hL]
            have htb := hth b hb'
            have hok := hin a b ha' hb'
            have hsu := hcs a b
            have hcl := hcn a b
            rw [hok] at hsu
            have hln := fullL_len N a b
            have hfs := fullL_succ N a b
            have haN : a * N ≤ 21 * 21 := Nat.mul_le_mul (by omega) (by omega)
            generalize cnt X N a b = c at e7 hsu hcl
            have hwc := succ_wrap (k := c) (by omega)
            generalize (X.evs.getD a ev0).th = u at hta hsu
            generalize (X.evs.getD b ev0).th = v at htb hsu
            generalize fullL N a b = B at e6 hln hfs
            rcases L3 with rfl | ⟨τ, rfl, hτ, hlt⟩
            · cases huv : (u == v) with
              | true =>
                rw [huv, if_pos rfl] at hsu
                simp (disch := omega) only [W_skip, W_ext, W_ret, W_seq, thenQ_nrm, thenQ_ext, thenQ_ret, W_cond, selW_true, selW_false, W_blk, blkQ_nrm, blkQ_ret, blkQ_same, blkQ_ne, W_reg, nrmQ_is, WR_nil, WR_cons, selO_true, selO_false, bindO_some, loopQ_nrm, loopQ_ext, loopQ_ret, wanted_none, wanted_some, wantV_1, wantV_0, wantV_undef, ev_t, ev_c, put_some, put_none, upd_same, upd_ne, List.length_cons, List.length_nil, List.map_cons, List.map_nil, allow_no, allow_lt, argEnv_0, argEnv_1, argEnv_2, argEnv_3, argEnv_4, argEnv_5, res_1, res_2, retQ_nrm, retQ_ret, o_mv, o_pick, vPick_t, vPick_f, o_new, o_box, vBox_S, boxD_ok, vMap_some, vMapL_some, o_build, o_ld, vLd_ptr, vLd_S, ldS_ok, selB_true, o_st, vSt_S, stS_ok, stD_ok, o_nilck, vNil_ptr, vNil_mp, vNil_fn, o_bin, o_un, o_mkfn, o_fa, vFa_mp, vFa_S, faD_ok, o_fld, vFld_agg, o_ia, vIa_sl, vIa_ms, o_iaa, vIaa_ptr, vIaa_mp, o_len, vLen_sl, vLen_ms, o_mx, o_mn, vMx_i, vMn_i, o_ext, vExt_tup, b_add, b_sub, b_mul, b_lss, b_leq, b_gtr, b_geq, b_eql, b_neq, o_pure, List.nil_append, List.append_nil, List.cons_append, frz_d_i, frz_d_b, frz_d_s, frz_d_nilp, frz_d_ptr, frz_d_sl, frz_d_fn0, Bool.not_true, Bool.not_false, Bool.true_and, Bool.and_true, Bool.false_and, Bool.and_false, decide_true, decide_false, beq_self_eq_true, Bool.true_eq_false, Bool.false_eq_true, Nat.zero_add, Nat.add_zero, Int.toNat_natCast, ge_iff_le, gt_iff_lt, fill_S, fillD_ok, fill_nil, cellsOf_agg, cellsOf_i, cellsOf_b, cellsOf_s, cellsOf_ptr, cellsOf_nilp, cellsOf_sl, cellsOf_mp, cellsOf_fn, one_i, one_b, one_s, one_ptr, one_nilp, one_sl, one_mp, one_fn, List.all_cons, List.all_nil, splice_1, splice_2, splice_3, part_0, part_1, part_2, drop_0, g0_nx, g0_hp, List.set_cons_zero, List.set_cons_succ, List.length_append, List.length_replicate, Nat.reduceAdd, Nat.reduceMul, Nat.reduceSub, eq_self, true_and, and_true, vPure_S, purS_some, purD_some, purE_true, frzL_cons, frzL_nil, consO_ok, flat_i, flat_b, flat_s, flat_nilp, flat_ptr, flat_sl, flat_agg, flat_tup, vis_i, vis_b, vis_s, vis_nilp, vis_ptr, vis_sl, vis_fn0, List.flatMap_cons, List.flatMap_nil, isEmpty_nil, Bool.true_or, Bool.false_or, Bool.or_true, Bool.or_false, frz_P, frz_Q, frzP_cells, frzB_true, map_some', rd_S, o_bsl, vBsl_t, vBsl_f, o_app, appD_ok, vApp_rig, vApp_rig0, appK_ok, vApp_own, o_eqn, o_eqb, o_eqa, aeqn_pn, aeqn_np, aeqn_mn, aeqn_nn, aeqb_bb, negb_t, negb_f, aun_not, midQ_nrm, e3, hg, e8, e9, e7, e6, hge, hb1, pairsC_len, hta, htb, hda, hdb, huv, hwb, hwc]
                refine ⟨N - (b + 1), by omega, b + 1, ?_⟩
                rw [hfs, pairsC_app, pairsC_one, List.length_append, hsu]
                exact ⟨_, rfl, by omega, rfl, rfl, rfl, .inr ⟨_, rfl, upd_same _ _ _, by first | omega | (dsimp only; omega)⟩, by first | omega | (dsimp only; omega)⟩
              | false =>
                rw [huv, if_neg (by simp)] at hsu
                simp (disch := omega) only [W_skip, W_ext, W_ret, W_seq, thenQ_nrm, thenQ_ext, thenQ_ret, W_cond, selW_true, selW_false, W_blk, blkQ_nrm, blkQ_ret, blkQ_same, blkQ_ne, W_reg, nrmQ_is, WR_nil, WR_cons, selO_true, selO_false, bindO_some, loopQ_nrm, loopQ_ext, loopQ_ret, wanted_none, wanted_some, wantV_1, wantV_0, wantV_undef, ev_t, ev_c, put_some, put_none, upd_same, upd_ne, List.length_cons, List.length_nil, List.map_cons, List.map_nil, allow_no, allow_lt, argEnv_0, argEnv_1, argEnv_2, argEnv_3, argEnv_4, argEnv_5, res_1, res_2, retQ_nrm, retQ_ret, o_mv, o_pick, vPick_t, vPick_f, o_new, o_box, vBox_S, boxD_ok, vMap_some, vMapL_some, o_build, o_ld, vLd_ptr, vLd_S, ldS_ok, selB_true, o_st, vSt_S, stS_ok, stD_ok, o_nilck, vNil_ptr, vNil_mp, vNil_fn, o_bin, o_un, o_mkfn, o_fa, vFa_mp, vFa_S, faD_ok, o_fld, vFld_agg, o_ia, vIa_sl, vIa_ms, o_iaa, vIaa_ptr, vIaa_mp, o_len, vLen_sl, vLen_ms, o_mx, o_mn, vMx_i, vMn_i, o_ext, vExt_tup, b_add, b_sub, b_mul, b_lss, b_leq, b_gtr, b_geq, b_eql, b_neq, o_pure, List.nil_append, List.append_nil, List.cons_append, frz_d_i, frz_d_b, frz_d_s, frz_d_nilp, frz_d_ptr, frz_d_sl, frz_d_fn0, Bool.not_true, Bool.not_false, Bool.true_and, Bool.and_true, Bool.false_and, Bool.and_false, decide_true, decide_false, beq_self_eq_true, Bool.true_eq_false, Bool.false_eq_true, Nat.zero_add, Nat.add_zero, Int.toNat_natCast, ge_iff_le, gt_iff_lt, fill_S, fillD_ok, fill_nil, cellsOf_agg, cellsOf_i, cellsOf_b, cellsOf_s, cellsOf_ptr, cellsOf_nilp, cellsOf_sl, cellsOf_mp, cellsOf_fn, one_i, one_b, one_s, one_ptr, one_nilp, one_sl, one_mp, one_fn, List.all_cons, List.all_nil, splice_1, splice_2, splice_3, part_0, part_1, part_2, drop_0, g0_nx, g0_hp, List.set_cons_zero, List.set_cons_succ, List.length_append, List.length_replicate, Nat.reduceAdd, Nat.reduceMul, Nat.reduceSub, eq_self, true_and, and_true, vPure_S, purS_some, purD_some, purE_true, frzL_cons, frzL_nil, consO_ok, flat_i, flat_b, flat_s, flat_nilp, flat_ptr, flat_sl, flat_agg, flat_tup, vis_i, vis_b, vis_s, vis_nilp, vis_ptr, vis_sl, vis_fn0, List.flatMap_cons, List.flatMap_nil, isEmpty_nil, Bool.true_or, Bool.false_or, Bool.or_true, Bool.or_false, frz_P, frz_Q, frzP_cells, frzB_true, map_some', rd_S, o_bsl, vBsl_t, vBsl_f, o_app, appD_ok, vApp_rig, vApp_rig0, appK_ok, vApp_own, o_eqn, o_eqb, o_eqa, aeqn_pn, aeqn_np, aeqn_mn, aeqn_nn, aeqb_bb, negb_t, negb_f, aun_not, midQ_nrm, e3, hg, e8, e9, e7, e6, hge, hb1, pairsC_len, hta, htb, hda, hdb, huv, hwb, hwc]
                refine ⟨N - (b + 1), by omega, b + 1, ?_⟩
                rw [hfs, pairsC_app, pairsC_one, List.length_append, hsu]
                exact ⟨_, rfl, by omega, rfl, rfl, rfl, .inr ⟨_, rfl, upd_same _ _ _, by first | omega | (dsimp only; omega)⟩, by first | omega | (dsimp only; omega)⟩
            · have n7 : τ ≠ 7 := fun h => by rw [h, hg] at hτ; cases hτ
              cases huv : (u == v) with
              | true =>
                rw [huv, if_pos rfl] at hsu
                simp (disch := omega) only [W_skip, W_ext, W_ret, W_seq, thenQ_nrm, thenQ_ext, thenQ_ret, W_cond, selW_true, selW_false, W_blk, blkQ_nrm, blkQ_ret, blkQ_same, blkQ_ne, W_reg, nrmQ_is, WR_nil, WR_cons, selO_true, selO_false, bindO_some, loopQ_nrm, loopQ_ext, loopQ_ret, wanted_none, wanted_some, wantV_1, wantV_0, wantV_undef, ev_t, ev_c, put_some, put_none, upd_same, upd_ne, List.length_cons, List.length_nil, List.map_cons, List.map_nil, allow_no, allow_lt, argEnv_0, argEnv_1, argEnv_2, argEnv_3, argEnv_4, argEnv_5, res_1, res_2, retQ_nrm, retQ_ret, o_mv, o_pick, vPick_t, vPick_f, o_new, o_box, vBox_S, boxD_ok, vMap_some, vMapL_some, o_build, o_ld, vLd_ptr, vLd_S, ldS_ok, selB_true, o_st, vSt_S, stS_ok, stD_ok, o_nilck, vNil_ptr, vNil_mp, vNil_fn, o_bin, o_un, o_mkfn, o_fa, vFa_mp, vFa_S, faD_ok, o_fld, vFld_agg, o_ia, vIa_sl, vIa_ms, o_iaa, vIaa_ptr, vIaa_mp, o_len, vLen_sl, vLen_ms, o_mx, o_mn, vMx_i, vMn_i, o_ext, vExt_tup, b_add, b_sub, b_mul, b_lss, b_leq, b_gtr, b_geq, b_eql, b_neq, o_pure, List.nil_append, List.append_nil, List.cons_append, frz_d_i, frz_d_b, frz_d_s, frz_d_nilp, frz_d_ptr, frz_d_sl, frz_d_fn0, Bool.not_true, Bool.not_false, Bool.true_and, Bool.and_true, Bool.false_and, Bool.and_false, decide_true, decide_false, beq_self_eq_true, Bool.true_eq_false, Bool.false_eq_true, Nat.zero_add, Nat.add_zero, Int.toNat_natCast, ge_iff_le, gt_iff_lt, fill_S, fillD_ok, fill_nil, cellsOf_agg, cellsOf_i, cellsOf_b, cellsOf_s, cellsOf_ptr, cellsOf_nilp, cellsOf_sl, cellsOf_mp, cellsOf_fn, one_i, one_b, one_s, one_ptr, one_nilp, one_sl, one_mp, one_fn, List.all_cons, List.all_nil, splice_1, splice_2, splice_3, part_0, part_1, part_2, drop_0, g0_nx, g0_hp, List.set_cons_zero, List.set_cons_succ, List.length_append, List.length_replicate, Nat.reduceAdd, Nat.reduceMul, Nat.reduceSub, eq_self, true_and, and_true, vPure_S, purS_some, purD_some, purE_true, frzL_cons, frzL_nil, consO_ok, flat_i, flat_b, flat_s, flat_nilp, flat_ptr, flat_sl, flat_agg, flat_tup, vis_i, vis_b, vis_s, vis_nilp, vis_ptr, vis_sl, vis_fn0, List.flatMap_cons, List.flatMap_nil, isEmpty_nil, Bool.true_or, Bool.false_or, Bool.or_true, Bool.or_false, frz_P, frz_Q, frzP_cells, frzB_true, map_some', rd_S, o_bsl, vBsl_t, vBsl_f, o_app, appD_ok, vApp_rig, vApp_rig0, appK_ok, vApp_own, o_eqn, o_eqb, o_eqa, aeqn_pn, aeqn_np, aeqn_mn, aeqn_nn, aeqb_bb, negb_t, negb_f, aun_not, midQ_nrm, e3, hg, e8, e9, e7, e6, hge, hb1, pairsC_len, hta, htb, hda, hdb, huv, hwb, hwc, hτ]
                refine ⟨N - (b + 1), by omega, b + 1, ?_⟩
                rw [hfs, pairsC_app, pairsC_one, List.length_append, hsu]
                exact ⟨_, rfl, by omega, rfl, rfl, rfl, .inr ⟨_, rfl, upd_same _ _ _, by first | omega | (dsimp only; omega)⟩, by first | omega | (dsimp only; omega)⟩
              | false =>
                rw [huv, if_neg (by simp)] at hsu
                simp (disch := omega) only [W_skip, W_ext, W_ret, W_seq, thenQ_nrm, thenQ_ext, thenQ_ret, W_cond, selW_true, selW_false, W_blk, blkQ_nrm, blkQ_ret, blkQ_same, blkQ_ne, W_reg, nrmQ_is, WR_nil, WR_cons, selO_true, selO_false, bindO_some, loopQ_nrm, loopQ_ext, loopQ_ret, wanted_none, wanted_some, wantV_1, wantV_0, wantV_undef, ev_t, ev_c, put_some, put_none, upd_same, upd_ne, List.length_cons, List.length_nil, List.map_cons, List.map_nil, allow_no, allow_lt, argEnv_0, argEnv_1, argEnv_2, argEnv_3, argEnv_4, argEnv_5, res_1, res_2, retQ_nrm, retQ_ret, o_mv, o_pick, vPick_t, vPick_f, o_new, o_box, vBox_S, boxD_ok, vMap_some, vMapL_some, o_build, o_ld, vLd_ptr, vLd_S, ldS_ok, selB_true, o_st, vSt_S, stS_ok, stD_ok, o_nilck, vNil_ptr, vNil_mp, vNil_fn, o_bin, o_un, o_mkfn, o_fa, vFa_mp, vFa_S, faD_ok, o_fld, vFld_agg, o_ia, vIa_sl, vIa_ms, o_iaa, vIaa_ptr, vIaa_mp, o_len, vLen_sl, vLen_ms, o_mx, o_mn, vMx_i, vMn_i, o_ext, vExt_tup, b_add, b_sub, b_mul, b_lss, b_leq, b_gtr, b_geq, b_eql, b_neq, o_pure, List.nil_append, List.append_nil, List.cons_append, frz_d_i, frz_d_b, frz_d_s, frz_d_nilp, frz_d_ptr, frz_d_sl, frz_d_fn0, Bool.not_true, Bool.not_false, Bool.true_and, Bool.and_true, Bool.false_and, Bool.and_false, decide_true, decide_false, beq_self_eq_true, Bool.true_eq_false, Bool.false_eq_true, Nat.zero_add, Nat.add_zero, Int.toNat_natCast, ge_iff_le, gt_iff_lt, fill_S, fillD_ok, fill_nil, cellsOf_agg, cellsOf_i, cellsOf_b, cellsOf_s, cellsOf_ptr, cellsOf_nilp, cellsOf_sl, cellsOf_mp, cellsOf_fn, one_i, one_b, one_s, one_ptr, one_nilp, one_sl, one_mp, one_fn, List.all_cons, List.all_nil, splice_1, splice_2, splice_3, part_0, part_1, part_2, drop_0, g0_nx, g0_hp, List.set_cons_zero, List.set_cons_succ, List.length_append, List.length_replicate, Nat.reduceAdd, Nat.reduceMul, Nat.reduceSub, eq_self, true_and, and_true, vPure_S, purS_some, purD_some, purE_true, frzL_cons, frzL_nil, consO_ok, flat_i, flat_b, flat_s, flat_nilp, flat_ptr, flat_sl, flat_agg, flat_tup, vis_i, vis_b, vis_s, vis_nilp, vis_ptr, vis_sl, vis_fn0, List.flatMap_cons, List.flatMap_nil, isEmpty_nil, Bool.true_or, Bool.false_or, Bool.or_true, Bool.or_false, frz_P, frz_Q, frzP_cells, frzB_true, map_some', rd_S, o_bsl, vBsl_t, vBsl_f, o_app, appD_ok, vApp_rig, vApp_rig0, appK_ok, vApp_own, o_eqn, o_eqb, o_eqa, aeqn_pn, aeqn_np, aeqn_mn, aeqn_nn, aeqb_bb, negb_t, negb_f, aun_not, midQ_nrm, e3, hg, e8, e9, e7, e6, hge, hb1, pairsC_len, hta, htb, hda, hdb, huv, hwb, hwc, hτ]
                refine ⟨N - (b + 1), by omega, b + 1, ?_⟩
                rw [hfs, pairsC_app, pairsC_one, List.length_append, hsu]
                exact ⟨_, rfl, by omega, rfl, rfl, rfl, .inr ⟨_, rfl, upd_same _ _ _, by first | omega | (dsimp only; omega)⟩, by first | omega | (dsimp only; omega)⟩
          · obtain rfl : b = N := by omega
            have hb1 : ¬ ((b : Int) < b) := by omega
            simp (disch := omega) only [W_skip, W_ext, W_ret, W_seq, thenQ_nrm, thenQ_ext, thenQ_ret, W_cond, selW_true, selW_false, W_blk, blkQ_nrm, blkQ_ret, blkQ_same, blkQ_ne, W_reg, nrmQ_is, WR_nil, WR_cons, selO_true, selO_false, bindO_some, loopQ_nrm, loopQ_ext, loopQ_ret, wanted_none, wanted_some, wantV_1, wantV_0, wantV_undef, ev_t, ev_c, put_some, put_none, upd_same, upd_ne, List.length_cons, List.length_nil, List.map_cons, List.map_nil, allow_no, allow_lt, argEnv_0, argEnv_1, argEnv_2, argEnv_3, argEnv_4, argEnv_5, res_1, res_2, retQ_nrm, retQ_ret, o_mv, o_pick, vPick_t, vPick_f, o_new, o_box, vBox_S, boxD_ok, vMap_some, vMapL_some, o_build, o_ld, vLd_ptr, vLd_S, ldS_ok, selB_true, o_st, vSt_S, stS_ok, stD_ok, o_nilck, vNil_ptr, vNil_mp, vNil_fn, o_bin, o_un, o_mkfn, o_fa, vFa_mp, vFa_S, faD_ok, o_fld, vFld_agg, o_ia, vIa_sl, vIa_ms, o_iaa, vIaa_ptr, vIaa_mp, o_len, vLen_sl, vLen_ms, o_mx, o_mn, vMx_i, vMn_i, o_ext, vExt_tup, b_add, b_sub, b_mul, b_lss, b_leq, b_gtr, b_geq, b_eql, b_neq, o_pure, List.nil_append, List.append_nil, List.cons_append, frz_d_i, frz_d_b, frz_d_s, frz_d_nilp, frz_d_ptr, frz_d_sl, frz_d_fn0, Bool.not_true, Bool.not_false, Bool.true_and, Bool.and_true, Bool.false_and, Bool.and_false, decide_true, decide_false, beq_self_eq_true, Bool.true_eq_false, Bool.false_eq_true, Nat.zero_add, Nat.add_zero, Int.toNat_natCast, ge_iff_le, gt_iff_lt, fill_S, fillD_ok, fill_nil, cellsOf_agg, cellsOf_i, cellsOf_b, cellsOf_s, cellsOf_ptr, cellsOf_nilp, cellsOf_sl, cellsOf_mp, cellsOf_fn, one_i, one_b, one_s, one_ptr, one_nilp, one_sl, one_mp, one_fn, List.all_cons, List.all_nil, splice_1, splice_2, splice_3, part_0, part_1, part_2, drop_0, g0_nx, g0_hp, List.set_cons_zero, List.set_cons_succ, List.length_append, List.length_replicate, Nat.reduceAdd, Nat.reduceMul, Nat.reduceSub, eq_self, true_and, and_true, vPure_S, purS_some, purD_some, purE_true, frzL_cons, frzL_nil, consO_ok, flat_i, flat_b, flat_s, flat_nilp, flat_ptr, flat_sl, flat_agg, flat_tup, vis_i, vis_b, vis_s, vis_nilp, vis_ptr, vis_sl, vis_fn0, List.flatMap_cons, List.flatMap_nil, isEmpty_nil, Bool.true_or, Bool.false_or, Bool.or_true, Bool.or_false, frz_P, frz_Q, frzP_cells, frzB_true, map_some', rd_S, o_bsl, vBsl_t, vBsl_f, o_app, appD_ok, vApp_rig, vApp_rig0, appK_ok, vApp_own, o_eqn, o_eqb, o_eqa, aeqn_pn, aeqn_np, aeqn_mn, aeqn_nn, aeqb_bb, negb_t, negb_f, aun_not, midQ_nrm, e3, hg, e8, e9, e7, e6, hge, hb1, hwa]
            refine ⟨b - (a + 1), by omega, a + 1, t3, rfl, by omega, rfl, by rw [hc0], ?_, ?_, by first | omega | (dsimp only; omega)⟩
            · rw [fullL_0, fullL_n]
            · rcases L3 with rfl | ⟨τ, rfl, hτ, hlt⟩
              · exact .inl rfl
              · exact .inr ⟨τ, rfl, hτ, by first | omega | (dsimp only; omega)⟩
      · obtain rfl : a = N := by omega
        have ha1 : ¬ ((a : Int) < a) := by omega
        have hlen := fullL_len a a 0
        have hnew := sp_new pr (a : Int) (fullK a a) .non (by omega)
        rw [show clamp (a : Int) = a by unfold clamp; omega] at hnew
        rw [fullL_0] at e6
        have hlc : pairsC ([] : List (Int × Int)) = [] := rfl
        have hcc := hcn a 0
        have hz : (((0 : Nat) : Int) == 0) = true := rfl
        rw [← hci] at e7
        have hsub : IntKind.i64.wrap (((fullK a a).length : Nat) - ((fullK a a).filter (okP inner X)).length : Int) = (((fullK a a).filter (okP outer X)).length : Nat) := by
          rw [hfn, i64_wrap (by omega) (by omega)]
          have := List.length_filter_le (okP inner X) (fullK a a)
          omega
        simp (disch := omega) only [W_skip, W_ext, W_ret, W_seq, thenQ_nrm, thenQ_ext, thenQ_ret, W_cond, selW_true, selW_false, W_blk, blkQ_nrm, blkQ_ret, blkQ_same, blkQ_ne, W_reg, nrmQ_is, WR_nil, WR_cons, selO_true, selO_false, bindO_some, loopQ_nrm, loopQ_ext, loopQ_ret, wanted_none, wanted_some, wantV_1, wantV_0, wantV_undef, ev_t, ev_c, put_some, put_none, upd_same, upd_ne, List.length_cons, List.length_nil, List.map_cons, List.map_nil, allow_no, allow_lt, argEnv_0, argEnv_1, argEnv_2, argEnv_3, argEnv_4, argEnv_5, res_1, res_2, retQ_nrm, retQ_ret, o_mv, o_pick, vPick_t, vPick_f, o_new, o_box, vBox_S, boxD_ok, vMap_some, vMapL_some, o_build, o_ld, vLd_ptr, vLd_S, ldS_ok, selB_true, o_st, vSt_S, stS_ok, stD_ok, o_nilck, vNil_ptr, vNil_mp, vNil_fn, o_bin, o_un, o_mkfn, o_fa, vFa_mp, vFa_S, faD_ok, o_fld, vFld_agg, o_ia, vIa_sl, vIa_ms, o_iaa, vIaa_ptr, vIaa_mp, o_len, vLen_sl, vLen_ms, o_mx, o_mn, vMx_i, vMn_i, o_ext, vExt_tup, b_add, b_sub, b_mul, b_lss, b_leq, b_gtr, b_geq, b_eql, b_neq, o_pure, List.nil_append, List.append_nil, List.cons_append, frz_d_i, frz_d_b, frz_d_s, frz_d_nilp, frz_d_ptr, frz_d_sl, frz_d_fn0, Bool.not_true, Bool.not_false, Bool.true_and, Bool.and_true, Bool.false_and, Bool.and_false, decide_true, decide_false, beq_self_eq_true, Bool.true_eq_false, Bool.false_eq_true, Nat.zero_add, Nat.add_zero, Int.toNat_natCast, ge_iff_le, gt_iff_lt, fill_S, fillD_ok, fill_nil, cellsOf_agg, cellsOf_i, cellsOf_b, cellsOf_s, cellsOf_ptr, cellsOf_nilp, cellsOf_sl, cellsOf_mp, cellsOf_fn, one_i, one_b, one_s, one_ptr, one_nilp, one_sl, one_mp, one_fn, List.all_cons, List.all_nil, splice_1, splice_2, splice_3, part_0, part_1, part_2, drop_0, g0_nx, g0_hp, List.set_cons_zero, List.set_cons_succ, List.length_append, List.length_replicate, Nat.reduceAdd, Nat.reduceMul, Nat.reduceSub, eq_self, true_and, and_true, vPure_S, purS_some, purD_some, purE_true, frzL_cons, frzL_nil, consO_ok, flat_i, flat_b, flat_s, flat_nilp, flat_ptr, flat_sl, flat_agg, flat_tup, vis_i, vis_b, vis_s, vis_nilp, vis_ptr, vis_sl, vis_fn0, List.flatMap_cons, List.flatMap_nil, isEmpty_nil, Bool.true_or, Bool.false_or, Bool.or_true, Bool.or_false, frz_P, frz_Q, frzP_cells, frzB_true, map_some', rd_S, o_bsl, vBsl_t, vBsl_f, o_app, appD_ok, vApp_rig, vApp_rig0, appK_ok, vApp_own, o_eqn, o_eqb, o_eqa, aeqn_pn, aeqn_np, aeqn_mn, aeqn_nn, aeqb_bb, negb_t, negb_f, aun_not, midQ_nrm, evC_len, evC_one, evC_flat, evC_all, ev_th, ev_kd, ev_md, ev_lc, ev_vl, ev_ex, grC_len, grC_one, grC_all, gr_locs, gr_evs, gr_rf, gr_co, gr_rmw, gr_data, gr_ctrl, gr_ctrli, frz_gr, frz_ev, vis_gr, vis_ev, splice_ev, evsC_len, coC_len, o_raw, vRaw_fn, res_0, retP_nrm, retP_ret, o_mget, vMget_S, mgS_map, o_mkmap, o_mput, vMput_S, mpS_map, mpO_none, part_22, e3, hg, e8, e7, e6, hge, hga, hgl, ha1, hfg, hvg, hnew, sIn, sOut, sLoc, sEco, sp_pairs pr (n := a) (by omega), pin, pout, peco, ploc, hz, hsub, sp_awakeE hA h62 pe h60 h81 pr]
        try rfl
end Go.Ab
end
