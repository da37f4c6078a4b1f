/- What ImmAny rests on, part 5: lemmas, no claim of its own. -/
import Derived.Test.YtkiecemdbkjccaaGreatPImmAny4
section
set_option linter.unusedVariables false
set_option linter.unusedSimpArgs false
namespace Go.Ab
variable {F : Funs}
theorem fz_p1 (a : List AV) (hp) : frzL hp depth [.ptr a] = some [.ptr a] := by simp only [frzL_cons, frzL_nil, frz_d_ptr, consO_ok]
theorem fz_p2 (a b : List AV) (hp) : frzL hp depth [.ptr a, .ptr b] = some [.ptr a, .ptr b] := by simp only [frzL_cons, frzL_nil, frz_d_ptr, consO_ok]
theorem vs_p1 (a : List AV) (hp) : [AV.ptr a].flatMap (vis hp depth) = [] := by simp only [List.flatMap_cons, List.flatMap_nil, vis_ptr, List.append_nil]
theorem vs_p2 (a b : List AV) (hp) : [AV.ptr a, .ptr b].flatMap (vis hp depth) = [] := by simp only [List.flatMap_cons, List.flatMap_nil, vis_ptr, List.append_nil]
theorem fzf_1 (f : Nat) (a : List AV) (hp) : frz hp depth (.fn f [] [.ptr a]) = some (.fn f [] [.ptr a]) := by
  show frz hp (8 + 1) _ = _
  simp only [frz, frzL]
theorem fzf_2 (f : Nat) (a b : List AV) (hp) : frz hp depth (.fn f [] [.ptr a, .ptr b]) = some (.fn f [] [.ptr a, .ptr b]) := by
  show frz hp (8 + 1) _ = _
  simp only [frz, frzL]
theorem vsf_1 (f : Nat) (a : List AV) (hp) : vis hp depth (.fn f [] [.ptr a]) = [] := by
  show vis hp (8 + 1) _ = _
  simp only [vis, List.flatMap_cons, List.flatMap_nil, List.append_nil]
theorem vsf_2 (f : Nat) (a b : List AV) (hp) : vis hp depth (.fn f [] [.ptr a, .ptr b]) = [] := by
  show vis hp (8 + 1) _ = _
  simp only [vis, List.flatMap_cons, List.flatMap_nil, List.append_nil]
theorem closR_1 {n : Nat} {f : Nat} {a : List AV} {R : Rw} (h : pureS F f [.ptr a] = some (.ptr (relC n R))) : ClosR F n (.fn f [] [.ptr a]) R := ⟨f, _, rfl, h, fz_p1 a, vs_p1 a⟩
theorem closR_2 {n : Nat} {f : Nat} {a b : List AV} {R : Rw} (h : pureS F f [.ptr a, .ptr b] = some (.ptr (relC n R))) : ClosR F n (.fn f [] [.ptr a, .ptr b]) R := ⟨f, _, rfl, h, fz_p2 a b, vs_p2 a b⟩
section
variable (S : OrdF F) {X : Gr} (hX : Few X)
include S hX
set_option maxRecDepth 100000 in
omit hX in
theorem so_deps1 (hd : X.data.length ≤ 1000) : pureS F 242 [.ptr (grC X)] = some (.ptr (relC (nOf X) (newR (nOf X) X.data))) := by
  refine pure_of S.po.order_Deps_1 ?_
  have h5 : part (List.drop 5 (grC X)) 0 none = some (.sl (pairsC X.data) X.data.length .non) := rfl
  simp (disch := omega) only [A_order_Deps_1, wp, Nat.reduceAdd, Nat.reduceMul, Nat.reduceSub, gl, h5, sp_ofX S.sy]
set_option maxRecDepth 100000 in
omit hX in
theorem so_deps2 (hd : X.ctrl.length ≤ 1000) : pureS F 243 [.ptr (grC X)] = some (.ptr (relC (nOf X) (newR (nOf X) X.ctrl))) := by
  refine pure_of S.po.order_Deps_2 ?_
  have h5 : part (List.drop 6 (grC X)) 0 none = some (.sl (pairsC X.ctrl) X.ctrl.length .non) := rfl
  simp (disch := omega) only [A_order_Deps_2, wp, Nat.reduceAdd, Nat.reduceMul, Nat.reduceSub, gl, h5, sp_ofX S.sy]
set_option maxRecDepth 100000 in
theorem so_deps3 : pureS F 244 [.ptr (grC X)] = some (.ptr (relC (nOf X) (thenR (nOf X) (setR X oEx) (poR X)))) := by
  refine pure_of S.po.order_Deps_3 ?_
  have hn := nOf_le X
  simp (disch := omega) only [A_order_Deps_3, wp, Nat.reduceAdd, Nat.reduceMul, Nat.reduceSub, gl, so_set S hX (so_Ex S), sp_poX S.sy hX, sp_then S.sy.pr hn hn, Nat.max_self]
set_option maxRecDepth 100000 in
theorem so_deps (hd : X.data.length ≤ 1000) (hc : X.ctrl.length ≤ 1000) : pureS F 213 [.agg (grC X)] = some (.ptr (relC (nOf X) (depsR X))) := by
  refine pure_of S.po.order_Deps ?_
  have d := so_all S (X := X) (fs := [.fn 242 [] [.ptr (grC X)], .fn 243 [] [.ptr (grC X)], .fn 244 [] [.ptr (grC X)]]) (Rs := [newR (nOf X) X.data, newR (nOf X) X.ctrl, thenR (nOf X) (setR X oEx) (poR X)]) ⟨closR_1 (so_deps1 S hd), closR_1 (so_deps2 S hc), closR_1 (so_deps3 S hX), trivial⟩ (by simp) .non
  simp only [List.length_cons, List.length_nil, Nat.reduceAdd] at d
  simp (disch := omega) only [A_order_Deps, wp, Nat.reduceAdd, Nat.reduceMul, Nat.reduceSub, gl, o_boxI, vBoxI_S, bxiD_ok, frzL_gr, vMapL_some, fzf_1, vsf_1, d]
  rfl
set_option maxRecDepth 100000 in
theorem so_bob1 : pureS F 194 [.ptr [.ptr (relC (nOf X) (poR X))], .ptr (grC X)] = some (.ptr (relC (nOf X) (thenR (nOf X) (poR X) (setR X oRel)))) := by
  refine pure_of S.po.order_Bob_1 ?_
  have hn := nOf_le X
  simp (disch := omega) only [A_order_Bob_1, wp, Nat.reduceAdd, Nat.reduceMul, Nat.reduceSub, gl, so_set S hX (so_Rel S), sp_then S.sy.pr hn hn, Nat.max_self]
set_option maxRecDepth 100000 in
theorem so_bob2 : pureS F 197 [.ptr (grC X), .ptr [.ptr (relC (nOf X) (poR X))]] = some (.ptr (relC (nOf X) (thenR (nOf X) (setR X oAcq) (poR X)))) := by
  refine pure_of S.po.order_Bob_2 ?_
  have hn := nOf_le X
  simp (disch := omega) only [A_order_Bob_2, wp, Nat.reduceAdd, Nat.reduceMul, Nat.reduceSub, gl, so_set S hX (so_Acq S), sp_then S.sy.pr hn hn, Nat.max_self]
set_option maxRecDepth 100000 in
theorem so_bob3 : pureS F 199 [.ptr [.ptr (relC (nOf X) (poR X))], .ptr (grC X)] = some (.ptr (relC (nOf X) (thenR (nOf X) (poR X) (setR X oF)))) := by
  refine pure_of S.po.order_Bob_3 ?_
  have hn := nOf_le X
  simp (disch := omega) only [A_order_Bob_3, wp, Nat.reduceAdd, Nat.reduceMul, Nat.reduceSub, gl, so_set S hX (so_F S), sp_then S.sy.pr hn hn, Nat.max_self]
set_option maxRecDepth 100000 in
theorem so_bob4 : pureS F 201 [.ptr (grC X), .ptr [.ptr (relC (nOf X) (poR X))]] = some (.ptr (relC (nOf X) (thenR (nOf X) (setR X oF) (poR X)))) := by
  refine pure_of S.po.order_Bob_4 ?_
  have hn := nOf_le X
  simp (disch := omega) only [A_order_Bob_4, wp, Nat.reduceAdd, Nat.reduceMul, Nat.reduceSub, gl, so_set S hX (so_F S), sp_then S.sy.pr hn hn, Nat.max_self]
set_option maxRecDepth 100000 in
theorem so_bob5 : pureS F 202 [.ptr (grC X)] = some (.ptr (relC (nOf X) (thenR (nOf X) (thenR (nOf X) (setR X oRel) (locR X)) (setR X oW)))) := by
  refine pure_of S.po.order_Bob_5 ?_
  have hn := nOf_le X
  simp (disch := omega) only [A_order_Bob_5, wp, Nat.reduceAdd, Nat.reduceMul, Nat.reduceSub, gl, so_set S hX (so_Rel S), so_set S hX (so_W S), sp_locX S.sy hX, sp_then S.sy.pr hn hn, Nat.max_self]
set_option maxRecDepth 100000 in
theorem so_bob : pureS F 155 [.agg (grC X)] = some (.ptr (relC (nOf X) (bobR X))) := by
  refine pure_of S.po.order_Bob ?_
  have d := so_all S (X := X) (fs := [.fn 194 [] [.ptr [.ptr (relC (nOf X) (poR X))], .ptr (grC X)], .fn 197 [] [.ptr (grC X), .ptr [.ptr (relC (nOf X) (poR X))]], .fn 199 [] [.ptr [.ptr (relC (nOf X) (poR X))], .ptr (grC X)], .fn 201 [] [.ptr (grC X), .ptr [.ptr (relC (nOf X) (poR X))]], .fn 202 [] [.ptr (grC X)]]) (Rs := bobL X) ⟨closR_2 (so_bob1 S hX), closR_2 (so_bob2 S hX), closR_2 (so_bob3 S hX), closR_2 (so_bob4 S hX), closR_1 (so_bob5 S hX), trivial⟩ (by simp [bobL]) .non
  simp only [bobL, List.length_cons, List.length_nil, Nat.reduceAdd] at d
  simp (disch := omega) only [A_order_Bob, wp, Nat.reduceAdd, Nat.reduceMul, Nat.reduceSub, gl, o_boxI, vBoxI_S, bxiD_ok, frzL_gr, vMapL_some, sp_poX S.sy hX]
  refine W_immM (fun e g => e 1 = .ptr (grC X) ∧ e 3 = .mp 4 0 ∧ g.hp 4 = some (.cells [.ptr (relC (nOf X) (poR X))] false) ∧ 4 < g.nx) ?_ ?_
  · simp (disch := omega) only [wp, Nat.reduceAdd, Nat.reduceMul, Nat.reduceSub, gl]
    trivial
  · have r5 : ∀ x : AV, List.replicate 5 x = [x, x, x, x, x] := fun _ => rfl
    rintro e g ⟨e1, e3, hg, hnx⟩
    have hfz : frz g.hp depth (e 3) = some (.ptr [.ptr (relC (nOf X) (poR X))]) := by
      rw [e3]
      refine frz_d_mp hg ?_
      show frzL g.hp (7 + 1) [AV.ptr (relC (nOf X) (poR X))] = _
      simp only [frzL, frz]
    rw [W_imm hfz]
    simp (disch := omega) only [wp, Nat.reduceAdd, Nat.reduceMul, Nat.reduceSub, gl, e1, r5, fzf_1, vsf_1, fzf_2, vsf_2, d]
    rfl
set_option maxRecDepth 100000 in
theorem so_ppo (hd : X.data.length ≤ 1000) (hc : X.ctrl.length ≤ 1000) : pureS F 207 [.agg (grC X)] = some (.ptr (relC (nOf X) (oppoR X))) := by
  refine pure_of S.po.order_Ppo ?_
  have hn := nOf_le X
  simp (disch := omega) only [A_order_Ppo, wp, Nat.reduceAdd, Nat.reduceMul, Nat.reduceSub, gl, so_deps S hX hd hc, so_set S hX (so_R S), so_set S hX (so_W S), sp_rfX S.sy hX, sp_Inner S.sy.pe S.sy.gof S.sy.pr hn, sp_or S.sy.pr hn hn, sp_plus S.sy.pr hn, sp_then S.sy.pr hn hn, Nat.max_self]
  rfl
set_option maxRecDepth 100000 in
theorem so_detour : pureS F 209 [.agg (grC X)] = some (.ptr (relC (nOf X) (odetR X))) := by
  refine pure_of S.po.order_Detour ?_
  have hn := nOf_le X
  simp (disch := omega) only [A_order_Detour, wp, Nat.reduceAdd, Nat.reduceMul, Nat.reduceSub, gl, sp_rfX S.sy hX, sp_poX S.sy hX, sp_Co S.sy.pe S.sy.gof S.sy.pr hX, sp_Outer S.sy.pe S.sy.gof S.sy.pr hn, sp_and S.sy.pr hn hn, sp_then S.sy.pr hn hn, Nat.max_self]
  rfl
set_option maxRecDepth 100000 in
theorem so_psc (hr : X.rmw.length ≤ 1000) : pureS F 211 [.agg (grC X)] = some (.ptr (relC (nOf X) (pscR X))) := by
  refine pure_of S.po.order_Psc ?_
  have hn := nOf_le X
  simp (disch := omega) only [A_order_Psc, wp, Nat.reduceAdd, Nat.reduceMul, Nat.reduceSub, gl, so_set S hX (so_Sc S), sp_Hb S.sy hX hr, sp_Eco S.sy.pe S.sy.gof S.sy.pr hX, sp_then S.sy.pr hn hn, Nat.max_self]
  rfl
set_option maxRecDepth 100000 in
theorem so_ar1 : pureS F 204 [.ptr (grC X)] = some (.ptr (relC (nOf X) (partR outer X (nOf X) (rfR X)))) := by
  refine pure_of S.po.order_Ar_1 ?_
  have hn := nOf_le X
  simp (disch := omega) only [A_order_Ar_1, wp, Nat.reduceAdd, Nat.reduceMul, Nat.reduceSub, gl, sp_rfX S.sy hX, sp_Outer S.sy.pe S.sy.gof S.sy.pr hn]
set_option maxRecDepth 100000 in
theorem so_ar2 : pureS F 205 [.ptr (grC X)] = some (.ptr (relC (nOf X) (bobR X))) := by
  refine pure_of S.po.order_Ar_2 ?_
  simp (disch := omega) only [A_order_Ar_2, wp, Nat.reduceAdd, Nat.reduceMul, Nat.reduceSub, gl, so_bob S hX]
set_option maxRecDepth 100000 in
theorem so_ar3 (hd : X.data.length ≤ 1000) (hc : X.ctrl.length ≤ 1000) : pureS F 206 [.ptr (grC X)] = some (.ptr (relC (nOf X) (oppoR X))) := by
  refine pure_of S.po.order_Ar_3 ?_
  simp (disch := omega) only [A_order_Ar_3, wp, Nat.reduceAdd, Nat.reduceMul, Nat.reduceSub, gl, so_ppo S hX hd hc]
set_option maxRecDepth 100000 in
theorem so_ar4 : pureS F 208 [.ptr (grC X)] = some (.ptr (relC (nOf X) (odetR X))) := by
  refine pure_of S.po.order_Ar_4 ?_
  simp (disch := omega) only [A_order_Ar_4, wp, Nat.reduceAdd, Nat.reduceMul, Nat.reduceSub, gl, so_detour S hX]
set_option maxRecDepth 100000 in
theorem so_ar5 (hr : X.rmw.length ≤ 1000) : pureS F 210 [.ptr (grC X)] = some (.ptr (relC (nOf X) (pscR X))) := by
  refine pure_of S.po.order_Ar_5 ?_
  simp (disch := omega) only [A_order_Ar_5, wp, Nat.reduceAdd, Nat.reduceMul, Nat.reduceSub, gl, so_psc S hX hr]
set_option maxRecDepth 100000 in
theorem so_ar (hd : X.data.length ≤ 1000) (hc : X.ctrl.length ≤ 1000) (hr : X.rmw.length ≤ 1000) : pureS F 156 [.agg (grC X)] = some (.ptr (relC (nOf X) (arR X))) := by
  refine pure_of S.po.order_Ar ?_
  have d := so_all S (X := X) (fs := [.fn 204 [] [.ptr (grC X)], .fn 205 [] [.ptr (grC X)], .fn 206 [] [.ptr (grC X)], .fn 208 [] [.ptr (grC X)], .fn 210 [] [.ptr (grC X)]]) (Rs := [partR outer X (nOf X) (rfR X), bobR X, oppoR X, odetR X, pscR X]) ⟨closR_1 (so_ar1 S hX), closR_1 (so_ar2 S hX), closR_1 (so_ar3 S hX hd hc), closR_1 (so_ar4 S hX), closR_1 (so_ar5 S hX hr), trivial⟩ (by simp) .non
  simp only [List.length_cons, List.length_nil, Nat.reduceAdd] at d
  have r5 : ∀ x : AV, List.replicate 5 x = [x, x, x, x, x] := fun _ => rfl
  simp (disch := omega) only [A_order_Ar, wp, Nat.reduceAdd, Nat.reduceMul, Nat.reduceSub, gl, r5, o_boxI, vBoxI_S, bxiD_ok, frzL_gr, vMapL_some, fzf_1, vsf_1, d]
  rfl
end
end Go.Ab
end
section
set_option linter.unusedVariables false
set_option linter.unusedSimpArgs false
namespace Go.Ab
variable {F : Funs}
structure ImmF (F : Funs) : Prop where
  o : OrdF F
  im : Pk_imm F
  gr : GrFs F
section
variable (X : Gr)
def cohR : Rw := orR (HbP X) (thenR (nOf X) (HbP X) (ecoR X))
def cohB : Bool := allN X.evs.length fun i => !has (nOf X) (cohR X) i i
def atR : Rw := andR (newR (nOf X) X.rmw) (thenR (nOf X) (partR outer X (nOf X) (relE (frS X.co) X)) (partR outer X (nOf X) (relE (coS X.co) X)))
def atB : Bool := ((pairsR (nOf X) (atR X)).length : Int) == 0
def ordB : Bool := !loopsR (nOf X) (arR X)
def conB : Bool := gCheck X && (cohB X && (atB X && ordB X))
end
section
variable (S : ImmF F) {X : Gr} (hX : Few X) (hL : LenG X)
include S hX hL
set_option maxRecDepth 100000 in
set_option maxHeartbeats 4000000 in
theorem si_coh : pureS F 214 [.agg (grC X)] = some (.b (cohB X)) := by
  refine pure_of S.im.imm_looked_coherent ?_
  have hn := nOf_le X
  have hev : X.evs.length ≤ 1000 := by have := hX.1; omega
  have hb := sp_Hb S.o.sy hX hL.rmw
  have he := sp_Eco S.o.sy.pe S.o.sy.gof S.o.sy.pr hX
  have finT : (∀ i, i < X.evs.length → (!has (nOf X) (cohR X) (i : Nat) (i : Nat)) = true) → cohB X = true := allN_t
  have finF : ∀ k, k < X.evs.length → (!has (nOf X) (cohR X) (k : Nat) (k : Nat)) = false → cohB X = false := fun k hk h => allN_f hk h
  generalize cohB X = R at finT finF
  have hc : cohR X = orR (HbP X) (thenR (nOf X) (HbP X) (ecoR X)) := rfl
  simp (disch := omega) only [A_imm_looked_coherent, wp, Nat.reduceAdd, Nat.reduceMul, Nat.reduceSub, gl, hb, he, sp_then S.o.sy.pr hn hn, sp_or S.o.sy.pr hn hn, Nat.max_self]
  rw [← hc]
  generalize cohR X = C at finT finF
  refine W_loop (fun q e g => ∃ k : Nat, q = X.evs.length - k ∧ k ≤ X.evs.length ∧ e 4 = .ptr (relC (nOf X) C) ∧ e 19 = .i .i64 X.evs.length ∧ e 20 = .i .i64 k ∧ ∀ i, i < k → (!has (nOf X) C (i : Nat) (i : Nat)) = true) X.evs.length ?_ ?_
  · refine ⟨0, rfl, Nat.zero_le _, ?_⟩
    simp (disch := omega) only [wp, Nat.reduceAdd, Nat.reduceMul, Nat.reduceSub]
    exact ⟨rfl, fun i hi => by omega⟩
  · rintro q e g ⟨k, rfl, hk, e4, e19, e20, hall⟩
    by_cases hk' : k < X.evs.length
    · have hk1 : (k : Int) < X.evs.length := by omega
      have hwk := succ_wrap (k := k) (by omega)
      have hh := sp_has S.o.sy.pr hn C k k
      have hf := finF k hk'
      have hall' : (!has (nOf X) C (k : Nat) (k : Nat)) = true → ∀ i, i < k + 1 → (!has (nOf X) C (i : Nat) (i : Nat)) = true := by
        intro h i hi
        by_cases hik : i = k
        · subst hik; exact h
        · exact hall i (by omega)
      cases c : has (nOf X) C (k : Nat) (k : Nat)
      · rw [c] at hh hall'
        simp (disch := omega) only [wp, Nat.reduceAdd, Nat.reduceMul, Nat.reduceSub, gl, e4, e19, e20, hk1, hh, hwk]
        exact ⟨X.evs.length - (k + 1), by omega, k + 1, rfl, by omega, rfl, hall' rfl⟩
      · rw [c] at hh hf
        obtain rfl := hf rfl
        simp (disch := omega) only [wp, Nat.reduceAdd, Nat.reduceMul, Nat.reduceSub, gl, e4, e19, e20, hk1, hh]
    · have hk1 : ¬ ((k : Int) < X.evs.length) := by omega
      obtain rfl : k = X.evs.length := by omega
      obtain rfl := finT hall
      simp (disch := omega) only [wp, Nat.reduceAdd, Nat.reduceMul, Nat.reduceSub, gl, e4, e19, e20, hk1]
set_option maxRecDepth 100000 in
set_option maxHeartbeats 4000000 in
theorem si_at : pureS F 215 [.agg (grC X)] = some (.b (atB X)) := by
  refine pure_of S.im.imm_looked_atomic ?_
  have hn := nOf_le X
  have r7 : ∀ x : AV, List.replicate 7 x = [x, x, x, x, x, x, x] := fun _ => rfl
  have s8 : ∀ a1 a2 a3 a4 a5 a6 a7 a8 c1 c2 c3 c4 c5 c6 c7 c8 : AV, splice [a1, a2, a3, a4, a5, a6, a7, a8] 0 [c1, c2, c3, c4, c5, c6, c7, c8] = [c1, c2, c3, c4, c5, c6, c7, c8] := fun _ _ _ _ _ _ _ _ _ _ _ _ _ _ _ _ => rfl
  have hr := hL.rmw
  have s9 : splice (AV.i .i64 0 :: List.replicate 7 (AV.sl [] 0 .rig)) 0 (grC X) = grC X := rfl
  have l9 : ([AV.i .i64 0] ++ List.replicate 7 (AV.sl [] 0 .rig)).length = 8 := rfl
  have a9 : ([AV.i .i64 0] ++ List.replicate 7 (AV.sl [] 0 .rig)).all Ab.one = true := rfl
  simp (disch := omega) only [A_imm_looked_atomic, wp, Nat.reduceAdd, Nat.reduceMul, Nat.reduceSub, gl, s9, l9, a9, sp_Fr S.o.sy.pe S.o.sy.gof S.o.sy.pr hX, sp_Co S.o.sy.pe S.o.sy.gof S.o.sy.pr hX, sp_Outer S.o.sy.pe S.o.sy.gof S.o.sy.pr hn, sp_ofX S.o.sy, sp_and S.o.sy.pr hn hn, sp_then S.o.sy.pr hn hn, sp_pairs S.o.sy.pr hn, Nat.max_self]
  rfl
set_option maxRecDepth 100000 in
theorem si_ord : pureS F 216 [.agg (grC X)] = some (.b (ordB X)) := by
  refine pure_of S.im.imm_looked_ordered ?_
  have hn := nOf_le X
  simp (disch := omega) only [A_imm_looked_ordered, wp, Nat.reduceAdd, Nat.reduceMul, Nat.reduceSub, gl, so_ar S.o hX hL.data hL.ctrl hL.rmw, sp_loops S.o.sy.pr hn]
  rfl
set_option maxRecDepth 100000 in
theorem si_Coh : pureS F 164 [.agg (grC X)] = some (.b (cohB X)) := by
  refine pure_of S.im.imm_Coherent ?_
  have s9 : splice (AV.i .i64 0 :: List.replicate 7 (AV.sl [] 0 .rig)) 0 (grC X) = grC X := rfl
  simp (disch := omega) only [A_imm_Coherent, wp, Nat.reduceAdd, Nat.reduceMul, Nat.reduceSub, gl, s9, si_coh S hX hL]
set_option maxRecDepth 100000 in
theorem si_At : pureS F 162 [.agg (grC X)] = some (.b (atB X)) := by
  refine pure_of S.im.imm_Atomic ?_
  have s9 : splice (AV.i .i64 0 :: List.replicate 7 (AV.sl [] 0 .rig)) 0 (grC X) = grC X := rfl
  simp (disch := omega) only [A_imm_Atomic, wp, Nat.reduceAdd, Nat.reduceMul, Nat.reduceSub, gl, s9, si_at S hX hL]
set_option maxRecDepth 100000 in
theorem si_Ord : pureS F 217 [.agg (grC X)] = some (.b (ordB X)) := by
  refine pure_of S.im.imm_Ordered ?_
  have s9 : splice (AV.i .i64 0 :: List.replicate 7 (AV.sl [] 0 .rig)) 0 (grC X) = grC X := rfl
  simp (disch := omega) only [A_imm_Ordered, wp, Nat.reduceAdd, Nat.reduceMul, Nat.reduceSub, gl, s9, si_ord S hX hL]
omit S hX hL in
theorem frz_bound (hp) (f : Nat) (X : Gr) : frz hp depth (.fn f [.agg (grC X)] []) = some (.fn f [.agg (grC X)] []) := by
  show frz hp (8 + 1) _ = _
  simp only [frz, frzL, grC, Option.map_some]
omit S hX hL in
theorem vis_bound (hp) (f : Nat) (X : Gr) : vis hp depth (.fn f [.agg (grC X)] []) = [] := by
  show vis hp (8 + 1) _ = _
  simp only [vis, grC, List.flatMap_cons, List.flatMap_nil, List.append_nil]
set_option maxRecDepth 100000 in
set_option maxHeartbeats 4000000 in
theorem si_con : pureS F 161 [.agg (grC X)] = some (.b (conB X)) := by
  refine pure_of S.im.imm_Consistent ?_
  have hck := sg_check S.gr hL
  have h1 := si_coh S hX hL
  have h2 := si_at S hX hL
  have h3 := si_ord S hX hL
  have hR : conB X = (gCheck X && (cohB X && (atB X && ordB X))) := rfl
  cases c0 : gCheck X
  · rw [c0] at hck hR
    rw [hR]
    simp (disch := omega) only [A_imm_Consistent, wp, Nat.reduceAdd, Nat.reduceMul, Nat.reduceSub, gl, hck]
  rw [c0] at hck
  rw [c0, Bool.true_and] at hR
  have s9 : splice (AV.i .i64 0 :: List.replicate 7 (AV.sl [] 0 .rig)) 0 (grC X) = grC X := rfl
  have l9 : ([AV.i .i64 0] ++ List.replicate 7 (AV.sl [] 0 .rig)).length = 8 := rfl
  have a9 : ([AV.i .i64 0] ++ List.replicate 7 (AV.sl [] 0 .rig)).all Ab.one = true := rfl
  generalize conB X = R at hR
  generalize cohB X = b1 at h1 hR
  generalize atB X = b2 at h2 hR
  generalize ordB X = b3 at h3 hR
  simp (disch := omega) only [A_imm_Consistent, wp, Nat.reduceAdd, Nat.reduceMul, Nat.reduceSub, gl, hck, s9, l9, a9, frz_bound, vis_bound, o_mkfn]
  have fz : ∀ hp : Nat → Option Blk, frzL hp depth ([.agg (grC X)] ++ [] ++ []) = some [.agg (grC X)] := fun hp => by
    show frzL hp (8 + 1) _ = _
    simp only [List.append_nil, frzL, frz, grC, Option.map_some]
  have c1 : ∀ al g, vPure F al (.fn 214 [.agg (grC X)] []) [] g = some (.b b1, g) := fun al g => vPure_ok (fz _) h1 rfl
  have c2 : ∀ al g, vPure F al (.fn 215 [.agg (grC X)] []) [] g = some (.b b2, g) := fun al g => vPure_ok (fz _) h2 rfl
  have c3 : ∀ al g, vPure F al (.fn 216 [.agg (grC X)] []) [] g = some (.b b3, g) := fun al g => vPure_ok (fz _) h3 rfl
  have o1 : Ab.one (.fn 214 [.agg (grC X)] []) = true := rfl
  have o2 : Ab.one (.fn 215 [.agg (grC X)] []) = true := rfl
  have o3 : Ab.one (.fn 216 [.agg (grC X)] []) = true := rfl
  generalize AV.fn 214 [.agg (grC X)] [] = f1 at c1 o1
  generalize AV.fn 215 [.agg (grC X)] [] = f2 at c2 o2
  generalize AV.fn 216 [.agg (grC X)] [] = f3 at c3 o3
  have p0 : part [f1, f2, f3] 0 (some 1) = some (.agg [f1]) := rfl
  have p1 : part (List.drop 1 [f1, f2, f3]) 0 (some 1) = some (.agg [f2]) := rfl
  have p2 : part (List.drop 2 [f1, f2, f3]) 0 (some 1) = some (.agg [f3]) := rfl
  refine W_loop (fun q e g => ∃ k : Nat, q = 3 - k ∧ k ≤ 3 ∧ e 20 = .sl [f1, f2, f3] 3 .rig ∧ e 21 = .i .i64 3 ∧ e 22 = .i .i64 k ∧ (1 ≤ k → b1 = true) ∧ (2 ≤ k → b2 = true) ∧ (3 ≤ k → b3 = true)) 3 ?_ ?_
  · refine ⟨0, rfl, by omega, ?_⟩
    simp (disch := omega) only [wp, Nat.reduceAdd, Nat.reduceMul, Nat.reduceSub]
    exact ⟨rfl, rfl, fun h => by omega, fun h => by omega, fun h => by omega⟩
  · rintro q e g ⟨k, rfl, hk, e20, e21, e22, q1, q2, q3⟩
    have lt03 : (((0 : Nat) : Int) < 3) := by omega
    have lt13 : (((1 : Nat) : Int) < 3) := by omega
    have lt23 : (((2 : Nat) : Int) < 3) := by omega
    have w0 := succ_wrap (k := 0) (by omega)
    have w1 := succ_wrap (k := 1) (by omega)
    have w2 := succ_wrap (k := 2) (by omega)
    have t1 : Int.toNat 1 = 1 := rfl
    have t2 : Int.toNat 2 = 2 := rfl
    have hk' : k = 0 ∨ k = 1 ∨ k = 2 ∨ k = 3 := by omega
    rcases hk' with rfl | rfl | rfl | rfl
    · cases b1
      · simp (disch := omega) only [wp, Nat.reduceAdd, Nat.reduceMul, Nat.reduceSub, gl, e20, e21, e22, lt03, p0, o1, c1, w0]
        rw [hR]; rfl
      · simp (disch := omega) only [wp, Nat.reduceAdd, Nat.reduceMul, Nat.reduceSub, gl, e20, e21, e22, lt03, p0, o1, c1, w0]
        exact ⟨2, by omega, 1, rfl, by omega, rfl, fun _ => trivial, fun h => by omega, fun h => by omega⟩
    · obtain rfl := q1 (by omega)
      cases b2
      · simp (disch := omega) only [wp, Nat.reduceAdd, Nat.reduceMul, Nat.reduceSub, gl, e20, e21, e22, lt13, p1, o2, c2, t1, w1]
        rw [hR]; rfl
      · simp (disch := omega) only [wp, Nat.reduceAdd, Nat.reduceMul, Nat.reduceSub, gl, e20, e21, e22, lt13, p1, o2, c2, t1, w1]
        exact ⟨1, by omega, 2, rfl, by omega, rfl, fun _ => trivial, fun _ => trivial, fun h => by omega⟩
    · obtain rfl := q1 (by omega)
      obtain rfl := q2 (by omega)
      cases b3
      · simp (disch := omega) only [wp, Nat.reduceAdd, Nat.reduceMul, Nat.reduceSub, gl, e20, e21, e22, lt23, p2, o3, c3, t2, w2]
        rw [hR]; rfl
      · simp (disch := omega) only [wp, Nat.reduceAdd, Nat.reduceMul, Nat.reduceSub, gl, e20, e21, e22, lt23, p2, o3, c3, t2, w2]
        exact ⟨0, by omega, 3, rfl, by omega, rfl, fun _ => trivial, fun _ => trivial, fun _ => trivial⟩
    · obtain rfl := q1 (by omega)
      obtain rfl := q2 (by omega)
      obtain rfl := q3 (by omega)
      have n33 : ¬ (((3 : Nat) : Int) < 3) := by omega
      simp (disch := omega) only [wp, Nat.reduceAdd, Nat.reduceMul, Nat.reduceSub, gl, e20, e21, e22, n33]
      rw [hR]; rfl
end
end Go.Ab
end
section
set_option linter.unusedVariables false
set_option linter.unusedSimpArgs false
namespace Go.Ab
variable {F : Funs}
def kindQ (k f t : Int) (e : Ev) : Bool := e.kd == k && (decide (f ≤ e.md) && decide (e.md ≤ t))
set_option maxRecDepth 100000 in
set_option maxHeartbeats 4000000 in
theorem sp_kind (h225 : F 225 = some A_xref06_Kind) (h27 : F 27 = some A_xref01_New) {X : Gr} (hn : X.evs.length ≤ 40) (k f t : Int) : pureS F 225 [.agg (grC X), .i .i64 k, .i .i64 f, .i .i64 t] = some (.ptr (matC X.evs.length (kindK X (kindQ k f t) X.evs.length))) := by
  refine pure_of_thaw h225 (matC_flat _ _) ?_
  have s6 : ∀ b1 b2 b3 b4 b5 b6 c1 c2 c3 c4 c5 c6 : AV, splice [b1, b2, b3, b4, b5, b6] 0 [c1, c2, c3, c4, c5, c6] = [c1, c2, c3, c4, c5, c6] := fun _ _ _ _ _ _ _ _ _ _ _ _ => rfl
  simp (disch := omega) only [A_xref06_Kind, wp, Nat.reduceAdd, Nat.reduceMul, Nat.reduceSub, gl, ml, thaw27 h27]
  refine W_loop (fun q e g => ∃ a : Nat, q = X.evs.length - a ∧ a ≤ X.evs.length ∧ e 1 = .i .i64 k ∧ e 2 = .i .i64 f ∧ e 3 = .i .i64 t ∧ e 4 = .mp 0 0 ∧ e 9 = .mp 5 0 ∧ e 10 = .i .i64 a ∧ g.hp 0 = some (.cells (grC X) false) ∧ g.hp 5 = some (.cells (matC X.evs.length (kindK X (kindQ k f t) a)) false) ∧ 5 < g.nx) X.evs.length ?_ ?_
  · refine ⟨0, rfl, Nat.zero_le _, ?_⟩
    simp (disch := omega) only [wp, Nat.reduceAdd, Nat.reduceMul, Nat.reduceSub]
    exact ⟨rfl, by rw [kindK_0], by first | omega | (dsimp only; omega)⟩
  · rintro q e g ⟨a, rfl, ha, e1, e2, e3, e4, e9, e10, hg, hm, hnx⟩
    by_cases ha' : a < X.evs.length
    · have ha1 : (a : Int) < X.evs.length := by omega
      have hwa := succ_wrap (k := a) (by omega)
      have hp := ev_part ha'
      have hs := kindK_succ X (kindQ k f t) a
      have hset := fun x => matC_set (n := X.evs.length) (M := kindK X (kindQ k f t) a) (a := a) (b := a) (x := x) (by omega)
      generalize X.evs.getD a ev0 = ev at hp hs
      obtain ⟨th, kd, md, lc, vl, ex⟩ := ev
      have hq : kindQ k f t ⟨th, kd, md, lc, vl, ex⟩ = (kd == k && (decide (f ≤ md) && decide (md ≤ t))) := rfl
      have fin : ∀ x, x = kindQ k f t ⟨th, kd, md, lc, vl, ex⟩ → X.evs.length - (a + 1) < X.evs.length - a ∧ upd2 (kindK X (kindQ k f t) a) a a x = kindK X (kindQ k f t) (a + 1) := fun x hx => ⟨by omega, by rw [hx, hs]⟩
      cases c1 : (kd == k)
      case false =>
        simp (disch := omega) only [wp, Nat.reduceAdd, Nat.reduceMul, Nat.reduceSub, gl, ml, e1, e2, e3, e4, e9, e10, hg, hm, ha1, hp, s6, c1, hset, hwa]
        obtain ⟨f1, f2⟩ := fin false (by rw [hq, c1]; rfl)
        exact ⟨_, f1, a + 1, rfl, by omega, rfl, by rw [f2], by first | omega | (dsimp only; omega)⟩
      by_cases c2 : f ≤ md
      case neg =>
        simp (disch := omega) only [wp, Nat.reduceAdd, Nat.reduceMul, Nat.reduceSub, gl, ml, e1, e2, e3, e4, e9, e10, hg, hm, ha1, hp, s6, c1, c2, hset, hwa]
        obtain ⟨f1, f2⟩ := fin false (by rw [hq, c1, decide_eq_false c2]; rfl)
        exact ⟨_, f1, a + 1, rfl, by omega, rfl, by rw [f2], by first | omega | (dsimp only; omega)⟩
      simp (disch := omega) only [wp, Nat.reduceAdd, Nat.reduceMul, Nat.reduceSub, gl, ml, e1, e2, e3, e4, e9, e10, hg, hm, ha1, hp, s6, c1, c2, hset, hwa]
      obtain ⟨f1, f2⟩ := fin (decide (md ≤ t)) (by rw [hq, c1, decide_eq_true c2]; simp)
      exact ⟨_, f1, a + 1, rfl, by omega, rfl, by rw [f2], by first | omega | (dsimp only; omega)⟩
    · obtain rfl : a = X.evs.length := by omega
      have ha1 : ¬ ((X.evs.length : Int) < X.evs.length) := by omega
      simp (disch := omega) only [wp, Nat.reduceAdd, Nat.reduceMul, Nat.reduceSub, gl, ml, e1, e2, e3, e4, e9, e10, hg, hm, ha1]
      exact ⟨_, rfl, hm⟩
def MIs (F : Funs) (f : Nat) (X : Gr) (R : Rw) : Prop := ∃ A, pureS F f [.agg (grC X)] = some (.ptr (matC X.evs.length A)) ∧ EqN X.evs.length A R
structure RefF (F : Funs) : Prop where
  px : Pk_xref01 F
  star : F 231 = some A_xref01_R_Star
  p9 : Pk_xref09 F
  p6 : Pk_xref06 F
  kind : F 225 = some A_xref06_Kind
  of : F 223 = some A_xref06_Of
section
variable (S : RefF F) {X : Gr} (h : GraphOk X)
include S h
theorem RefF.k (k f t : Int) : pureS F 225 [.agg (grC X), .i .i64 k, .i .i64 f, .i .i64 t] = some (.ptr (matC X.evs.length (kindK X (kindQ k f t) X.evs.length))) := sp_kind S.kind S.px.xref01_New h.n40 k f t
set_option maxRecDepth 100000 in
theorem RefF.ofL (l : List (Int × Int)) (hl : l.length ≤ 1000) (t : Tok) : pureS F 223 [.agg (grC X), .sl (pairsC l) l.length t] = some (.ptr (matC X.evs.length (newM X.evs.length l))) := by
  refine pure_of S.of ?_
  have n40 := h.n40
  have d2 := sp_newM S.px.xref01_New (X.evs.length : Int) l .non (by omega)
  rw [show clamp (X.evs.length : Int) = X.evs.length by unfold clamp; omega] at d2
  simp (disch := omega) only [A_xref06_Of, wp, Nat.reduceAdd, Nat.reduceMul, Nat.reduceSub, gl, d2]
set_option maxRecDepth 100000 in
theorem RefF.st (A : Mx) : pureS F 231 [.ptr (matC X.evs.length A)] = some (.ptr (matC X.evs.length (mbM (plM X.evs.length A X.evs.length) X.evs.length))) := by
  refine pure_of S.star ?_
  simp (disch := omega) only [A_xref01_R_Star, wp, Nat.reduceAdd, Nat.reduceMul, Nat.reduceSub, gl, sp_mplus S.px.xref01_R_Plus S.px.xref01_New h.n40, sp_mmaybe S.px.xref01_R_Maybe S.px.xref01_New h.n40]
theorem RefF.rf : pureS F 69 [.agg (grC X)] = some (.ptr (matC X.evs.length (anyM (rfL X X.rf.length)))) := by
  have n40 := h.n40
  have hrl := h.rfl
  exact sp_mRf S.p9.xref09_Rf S.px.xref01_New (X := X) n40 (by omega) (fun i hi => by have := (h.rfr i (by omega)).2; omega)
theorem RefF.po : pureS F 84 [.agg (grC X)] = some (.ptr (matC X.evs.length (mpoM X))) := sp_mPo S.p6.xref06_Po S.px.xref01_New h.n40
theorem RefF.loc : pureS F 73 [.agg (grC X)] = some (.ptr (matC X.evs.length (locM X))) := sp_mLoc S.p9.xref09_Loc S.p6.xref06_Po S.px.xref01_New h.n40
theorem RefF.inner (A : Mx) : pureS F 74 [.agg (grC X), .ptr (matC X.evs.length A)] = some (.ptr (matC X.evs.length (prtM X true A))) := sp_mInner S.p9.xref09_Inner S.p9.xref09_part S.px.xref01_New h.n40 A
theorem RefF.outer (A : Mx) : pureS F 75 [.agg (grC X), .ptr (matC X.evs.length A)] = some (.ptr (matC X.evs.length (prtM X false A))) := sp_mOuter S.p9.xref09_Outer S.p9.xref09_part S.px.xref01_New h.n40 A
theorem RefF.then (A B : Mx) : pureS F 32 [.ptr (matC X.evs.length A), .ptr (matC X.evs.length B)] = some (.ptr (matC X.evs.length (thM A B X.evs.length X.evs.length))) := by
  have := sp_mthen S.px.xref01_R_Then S.px.xref01_New h.n40 h.n40 A B
  rwa [Nat.max_self] at this
theorem RefF.or (A B : Mx) : pureS F 29 [.ptr (matC X.evs.length A), .ptr (matC X.evs.length B)] = some (.ptr (matC X.evs.length (opM (fun x y => x || y) A B X.evs.length))) := by
  have := sp_mor S.px.xref01_R_Or S.px.xref01_New h.n40 h.n40 A B
  rwa [Nat.max_self] at this
theorem RefF.and (A B : Mx) : pureS F 30 [.ptr (matC X.evs.length A), .ptr (matC X.evs.length B)] = some (.ptr (matC X.evs.length (opM (fun x y => x && y) A B X.evs.length))) := by
  have := sp_mand S.px.xref01_R_And S.px.xref01_New h.n40 h.n40 A B
  rwa [Nat.max_self] at this
theorem RefF.plus (A : Mx) : pureS F 34 [.ptr (matC X.evs.length A)] = some (.ptr (matC X.evs.length (plM X.evs.length A X.evs.length))) := sp_mplus S.px.xref01_R_Plus S.px.xref01_New h.n40 A
theorem RefF.maybe (A : Mx) : pureS F 35 [.ptr (matC X.evs.length A)] = some (.ptr (matC X.evs.length (mbM A X.evs.length))) := sp_mmaybe S.px.xref01_R_Maybe S.px.xref01_New h.n40 A
end
section
variable {X : Gr} (h : GraphOk X)
include h
theorem kq {k f t : Int} {p : Ev → Bool} (hq : ∀ e : Ev, (e.kd = 1 ∧ (e.md = 0 ∨ e.md = 1)) ∨ (e.kd = 2 ∧ (e.md = 0 ∨ e.md = 2)) ∨ (e.kd = 3 ∧ 1 ≤ e.md ∧ e.md ≤ 4) → p e = kindQ k f t e) : EqN X.evs.length (kindK X (kindQ k f t) X.evs.length) (setR X p) :=
  EqN.set h fun i hi => hq _ (ev_kinds h i hi)
end
theorem q_W (e : Ev) (h : (e.kd = 1 ∧ (e.md = 0 ∨ e.md = 1)) ∨ (e.kd = 2 ∧ (e.md = 0 ∨ e.md = 2)) ∨ (e.kd = 3 ∧ 1 ≤ e.md ∧ e.md ≤ 4)) : setP 2 [] e = kindQ 2 0 2 e := by
  unfold setP kindQ
  rcases h with ⟨h1, h2⟩ | ⟨h1, h2⟩ | ⟨h1, h2, h3⟩
  · rw [h1]; rfl
  · rcases h2 with h2 | h2 <;> rw [h1, h2] <;> rfl
  · rw [h1]; rfl
theorem q_md (k f : Int) (e : Ev) : setP k [f] e = kindQ k f f e := by
  unfold setP kindQ
  congr 1
  rw [Bool.eq_iff_iff]
  simp
  omega
theorem q_Frel (e : Ev) (h : (e.kd = 1 ∧ (e.md = 0 ∨ e.md = 1)) ∨ (e.kd = 2 ∧ (e.md = 0 ∨ e.md = 2)) ∨ (e.kd = 3 ∧ 1 ≤ e.md ∧ e.md ≤ 4)) : setP 3 [2, 3, 4] e = kindQ 3 2 4 e := by
  unfold setP kindQ
  congr 1
  rw [Bool.eq_iff_iff]
  simp
  omega
set_option maxRecDepth 100000 in
section
variable (S : RefF F) (p10 : Pk_xref10 F) {X : Gr} (h : GraphOk X)
include S p10 h
theorem mW : pureS F 230 [.agg (grC X)] = some (.ptr (matC X.evs.length (kindK X (kindQ 2 0 2) X.evs.length))) := by
  refine pure_of p10.xref10_W ?_
  simp (disch := omega) only [A_xref10_W, wp, Nat.reduceAdd, Nat.reduceMul, Nat.reduceSub, gl, S.k h]
theorem mWrel : pureS F 232 [.agg (grC X)] = some (.ptr (matC X.evs.length (kindK X (kindQ 2 2 2) X.evs.length))) := by
  refine pure_of p10.xref10_Wrel ?_
  simp (disch := omega) only [A_xref10_Wrel, wp, Nat.reduceAdd, Nat.reduceMul, Nat.reduceSub, gl, S.k h]
theorem mFrel : pureS F 233 [.agg (grC X)] = some (.ptr (matC X.evs.length (kindK X (kindQ 3 2 4) X.evs.length))) := by
  refine pure_of p10.xref10_Frel ?_
  simp (disch := omega) only [A_xref10_Frel, wp, Nat.reduceAdd, Nat.reduceMul, Nat.reduceSub, gl, S.k h]
theorem mRacq : pureS F 234 [.agg (grC X)] = some (.ptr (matC X.evs.length (kindK X (kindQ 1 1 1) X.evs.length))) := by
  refine pure_of p10.xref10_Racq ?_
  simp (disch := omega) only [A_xref10_Racq, wp, Nat.reduceAdd, Nat.reduceMul, Nat.reduceSub, gl, S.k h]
theorem mFacq : pureS F 235 [.agg (grC X)] = some (.ptr (matC X.evs.length (opM (fun x y => x || y) (kindK X (kindQ 3 1 1) X.evs.length) (kindK X (kindQ 3 3 4) X.evs.length) X.evs.length))) := by
  refine pure_of p10.xref10_Facq ?_
  simp (disch := omega) only [A_xref10_Facq, wp, Nat.reduceAdd, Nat.reduceMul, Nat.reduceSub, gl, S.k h, S.or h]
theorem mRs (hr : X.rmw.length ≤ 1000) : MIs F 182 X (RsP X) := by
  unfold RsP locR
  rw [h.nOf]
  have w := kq h q_W
  have l := eq_loc h
  have c := ((l.maybe h.n40).then (eq_rf h)).then (EqN.new h.n40 X.rmw)
  refine ⟨_, pure_of p10.xref10_Rs ?_, ((w.then l).then w).or (w.then (c.plus.maybe h.n40))⟩
  simp (disch := omega) only [A_xref10_Rs, wp, Nat.reduceAdd, Nat.reduceMul, Nat.reduceSub, gl, mW S p10 h, S.loc h, S.maybe h, S.rf h, S.then h, S.ofL h, S.st h, S.or h]
theorem mRelease (hr : X.rmw.length ≤ 1000) : MIs F 183 X (ReleaseP X) := by
  obtain ⟨A, hA, eA⟩ := mRs S p10 h hr
  unfold ReleaseP
  rw [h.nOf]
  have w := kq h fun e _ => q_md 2 2 e
  have f := kq h q_Frel
  refine ⟨_, pure_of p10.xref10_Release ?_, (w.or (f.then (eq_po h))).then eA⟩
  simp (disch := omega) only [A_xref10_Release, wp, Nat.reduceAdd, Nat.reduceMul, Nat.reduceSub, gl, mWrel S p10 h, mFrel S p10 h, S.po h, S.then h, S.or h, hA]
omit S p10 in
theorem eq_facq : EqN X.evs.length (opM (fun x y => x || y) (kindK X (kindQ 3 1 1) X.evs.length) (kindK X (kindQ 3 3 4) X.evs.length) X.evs.length) (setR X (setP 3 [1, 3, 4])) := by
  have e : EqN X.evs.length (kindK X (setP 3 [1, 3, 4]) X.evs.length) (setR X (setP 3 [1, 3, 4])) := EqN.set h fun i hi => rfl
  refine ⟨e.1, fun a b ha hb' => ?_⟩
  rw [opM_get _ _ _ _ _ _ ha hb', ← e.2 a b ha hb']
  unfold kindK
  have hk := ev_kinds h a ha
  generalize X.evs.getD a ev0 = ev at hk
  rw [Bool.eq_iff_iff]
  simp [setP, kindQ]
  omega
theorem mSw (hr : X.rmw.length ≤ 1000) : MIs F 184 X (SwP X) := by
  obtain ⟨A, hA, eA⟩ := mRelease S p10 h hr
  unfold SwP locR rfR
  rw [h.nOf]
  have r := kq h fun e _ => q_md 1 1 e
  have l := eq_loc h
  have read := (eq_inner h (eq_rf h)).or ((l.maybe h.n40).then (eq_outer h (eq_rf h)))
  refine ⟨_, pure_of p10.xref10_Sw ?_, (eA.then read).then (r.or ((eq_po h).then (eq_facq h)))⟩
  simp (disch := omega) only [A_xref10_Sw, wp, Nat.reduceAdd, Nat.reduceMul, Nat.reduceSub, gl, mRacq S p10 h, mFacq S p10 h, S.po h, S.loc h, S.rf h, S.inner h, S.outer h, S.maybe h, S.then h, S.or h, hA]
theorem mHb (hr : X.rmw.length ≤ 1000) : MIs F 185 X (HbP X) := by
  obtain ⟨A, hA, eA⟩ := mSw S p10 h hr
  unfold HbP
  rw [h.nOf]
  refine ⟨_, pure_of p10.xref10_Hb ?_, ((eq_po h).or eA).plus⟩
  simp (disch := omega) only [A_xref10_Hb, wp, Nat.reduceAdd, Nat.reduceMul, Nat.reduceSub, gl, S.po h, S.or h, S.plus h, hA]
end
end Go.Ab
end
section
namespace Go.Ab
def A_xref19_Parts : AFun := { res := [.cell 2 (some 4)], body := (.seq (.reg false [{ dst := some 1, op := .box (.t 0) },
  { dst := some 2, op := .new (List.replicate 4 (.nilp)) }])
 (.seq (.reg false [{ dst := some 12, op := .ld (some 8) (.t 1) },
  { dst := some 13, op := .call .pure (.c (.fn 222 [] [])) [.t 12] },
  { dst := some 3, op := .mv (.t 13) }])
 (.seq (.reg false [{ dst := some 14, op := .ld (some 8) (.t 1) },
  { dst := some 15, op := .fa 5 (.t 1) },
  { dst := some 16, op := .ld none (.t 15) },
  { dst := some 17, op := .call .pure (.c (.fn 223 [] [])) [.t 14, .t 16] },
  { dst := some 4, op := .mv (.t 17) }])
 (.seq (.reg true [{ dst := some 18, op := .ld (some 8) (.t 1), pre := [] },
  { dst := some 19, op := .fa 6 (.t 1) },
  { dst := some 20, op := .ld none (.t 19), pre := [] },
  { dst := some 21, op := .call .pure (.c (.fn 223 [] [])) [.t 18, .t 20], pre := [] },
  { dst := some 22, op := .mv (.t 3) },
  { dst := some 23, op := .call .pure (.c (.fn 32 [] [])) [.t 21, .t 22], pre := [] },
  { dst := some 24, op := .ld (some 8) (.t 1), pre := [] },
  { dst := some 25, op := .fa 7 (.t 1) },
  { dst := some 26, op := .ld none (.t 25), pre := [] },
  { dst := some 27, op := .call .pure (.c (.fn 223 [] [])) [.t 24, .t 26], pre := [] },
  { dst := some 28, op := .mv (.t 3) },
  { dst := some 29, op := .call .pure (.c (.fn 32 [] [])) [.t 27, .t 28], pre := [] },
  { dst := some 5, op := .mv (.t 23) },
  { dst := some 6, op := .mv (.t 29) }])
 (.seq (.reg true [{ dst := some 30, op := .ld (some 8) (.t 1), pre := [] },
  { dst := some 31, op := .ld (some 8) (.t 1), pre := [] },
  { dst := some 32, op := .call .pure (.c (.fn 69 [] [])) [.t 31], pre := [] },
  { dst := some 33, op := .call .pure (.c (.fn 74 [] [])) [.t 30, .t 32], pre := [] },
  { dst := some 7, op := .mv (.t 33) }])
 (.seq (.reg false [{ dst := some 34, op := .fa 1 (.t 1) },
  { dst := some 35, op := .ld none (.t 34) },
  { dst := some 36, op := .len (.t 35) },
  { dst := some 37, op := .call .pure (.c (.fn 27 [] [])) [.t 36, .c (.sl [] 0 .rig)] },
  { dst := some 8, op := .mv (.t 37) }])
 (.seq (.reg true [{ dst := some 38, op := .mv (.t 4) },
  { dst := some 39, op := .ld (some 8) (.t 1), pre := [] },
  { dst := some 40, op := .call .pure (.c (.fn 174 [] [])) [.t 39], pre := [] },
  { dst := some 41, op := .call .pure (.c (.fn 29 [] [])) [.t 38, .t 40], pre := [] },
  { dst := some 42, op := .mv (.t 7) },
  { dst := some 43, op := .call .pure (.c (.fn 29 [] [])) [.t 41, .t 42], pre := [] },
  { dst := some 44, op := .mv (.t 8) },
  { dst := some 45, op := .mv (.t 6) },
  { dst := some 46, op := .ld (some 8) (.t 1), pre := [] },
  { dst := some 47, op := .call .pure (.c (.fn 175 [] [])) [.t 46], pre := [] },
  { dst := some 48, op := .call .pure (.c (.fn 29 [] [])) [.t 45, .t 47], pre := [] },
  { dst := some 49, op := .mv (.t 4) },
  { dst := some 50, op := .ld (some 8) (.t 1), pre := [] },
  { dst := some 51, op := .call .pure (.c (.fn 224 [] [])) [.t 50], pre := [] },
  { dst := some 52, op := .call .pure (.c (.fn 29 [] [])) [.t 49, .t 51], pre := [] },
  { dst := some 53, op := .mv (.t 5) },
  { dst := some 54, op := .call .pure (.c (.fn 29 [] [])) [.t 52, .t 53], pre := [] },
  { dst := some 55, op := .build (List.replicate 4 (.nilp)) [(0, 1, .t 43), (1, 1, .t 44), (2, 1, .t 48), (3, 1, .t 54)] },
  { dst := some 9, op := .new (List.replicate 4 (.nilp)) },
  { dst := none, op := .stL 4 (.t 9) (.t 55), pre := [18] }])
 (.seq (.reg false [{ dst := some 56, op := .ld (some 4) (.t 9) },
  { dst := some 10, op := .new (List.replicate 4 (.nilp)) },
  { dst := none, op := .st 4 (.t 10) (.t 56) }])
 (.blk 0 (.loop (.blk 1 (.seq (.reg true [{ dst := some 57, op := .fa 0 (.t 9) },
  { dst := some 58, op := .ld none (.t 57), pre := [] },
  { dst := some 59, op := .fa 2 (.t 10) },
  { dst := some 60, op := .ld none (.t 59), pre := [] },
  { dst := some 61, op := .call .pure (.c (.fn 29 [] [])) [.t 58, .t 60], pre := [] },
  { dst := some 62, op := .fa 1 (.t 10) },
  { dst := some 63, op := .ld none (.t 62), pre := [] },
  { dst := some 64, op := .fa 2 (.t 10) },
  { dst := some 65, op := .ld none (.t 64), pre := [] },
  { dst := some 66, op := .call .pure (.c (.fn 32 [] [])) [.t 63, .t 65], pre := [] },
  { dst := some 67, op := .call .pure (.c (.fn 29 [] [])) [.t 61, .t 66], pre := [] },
  { dst := some 68, op := .fa 0 (.t 10) },
  { dst := some 69, op := .ld none (.t 68), pre := [] },
  { dst := some 70, op := .fa 0 (.t 10) },
  { dst := some 71, op := .ld none (.t 70), pre := [] },
  { dst := some 72, op := .call .pure (.c (.fn 32 [] [])) [.t 69, .t 71], pre := [] },
  { dst := some 73, op := .call .pure (.c (.fn 29 [] [])) [.t 67, .t 72], pre := [] },
  { dst := some 74, op := .fa 0 (.t 10) },
  { dst := some 75, op := .ld none (.t 74), pre := [] },
  { dst := some 76, op := .fa 3 (.t 10) },
  { dst := some 77, op := .ld none (.t 76), pre := [] },
  { dst := some 78, op := .call .pure (.c (.fn 29 [] [])) [.t 75, .t 77], pre := [] },
  { dst := some 79, op := .fa 1 (.t 10) },
  { dst := some 80, op := .ld none (.t 79), pre := [] },
  { dst := some 81, op := .fa 3 (.t 10) },
  { dst := some 82, op := .ld none (.t 81), pre := [] },
  { dst := some 83, op := .call .pure (.c (.fn 32 [] [])) [.t 80, .t 82], pre := [] },
  { dst := some 84, op := .call .pure (.c (.fn 29 [] [])) [.t 78, .t 83], pre := [] },
  { dst := some 85, op := .fa 0 (.t 10) },
  { dst := some 86, op := .ld none (.t 85), pre := [] },
  { dst := some 87, op := .fa 1 (.t 10) },
  { dst := some 88, op := .ld none (.t 87), pre := [] },
  { dst := some 89, op := .call .pure (.c (.fn 32 [] [])) [.t 86, .t 88], pre := [] },
  { dst := some 90, op := .call .pure (.c (.fn 29 [] [])) [.t 84, .t 89], pre := [] },
  { dst := some 91, op := .fa 2 (.t 9) },
  { dst := some 92, op := .ld none (.t 91), pre := [] },
  { dst := some 93, op := .fa 2 (.t 10) },
  { dst := some 94, op := .ld none (.t 93), pre := [] },
  { dst := some 95, op := .fa 0 (.t 10) },
  { dst := some 96, op := .ld none (.t 95), pre := [] },
  { dst := some 97, op := .call .pure (.c (.fn 32 [] [])) [.t 94, .t 96], pre := [] },
  { dst := some 98, op := .call .pure (.c (.fn 29 [] [])) [.t 92, .t 97], pre := [] },
  { dst := some 99, op := .fa 3 (.t 10) },
  { dst := some 100, op := .ld none (.t 99), pre := [] },
  { dst := some 101, op := .fa 2 (.t 10) },
  { dst := some 102, op := .ld none (.t 101), pre := [] },
  { dst := some 103, op := .call .pure (.c (.fn 32 [] [])) [.t 100, .t 102], pre := [] },
  { dst := some 104, op := .call .pure (.c (.fn 29 [] [])) [.t 98, .t 103], pre := [] },
  { dst := some 105, op := .fa 3 (.t 9) },
  { dst := some 106, op := .ld none (.t 105), pre := [] },
  { dst := some 107, op := .fa 2 (.t 10) },
  { dst := some 108, op := .ld none (.t 107), pre := [] },
  { dst := some 109, op := .call .pure (.c (.fn 29 [] [])) [.t 106, .t 108], pre := [] },
  { dst := some 110, op := .fa 2 (.t 10) },
  { dst := some 111, op := .ld none (.t 110), pre := [] },
  { dst := some 112, op := .fa 1 (.t 10) },
  { dst := some 113, op := .ld none (.t 112), pre := [] },
  { dst := some 114, op := .call .pure (.c (.fn 32 [] [])) [.t 111, .t 113], pre := [] },
  { dst := some 115, op := .call .pure (.c (.fn 29 [] [])) [.t 109, .t 114], pre := [] },
  { dst := some 116, op := .fa 3 (.t 10) },
  { dst := some 117, op := .ld none (.t 116), pre := [] },
  { dst := some 118, op := .fa 3 (.t 10) },
  { dst := some 119, op := .ld none (.t 118), pre := [] },
  { dst := some 120, op := .call .pure (.c (.fn 32 [] [])) [.t 117, .t 119], pre := [] },
  { dst := some 121, op := .call .pure (.c (.fn 29 [] [])) [.t 115, .t 120], pre := [] },
  { dst := some 122, op := .build (List.replicate 4 (.nilp)) [(0, 1, .t 73), (1, 1, .t 90), (2, 1, .t 104), (3, 1, .t 121)] },
  { dst := some 11, op := .new (List.replicate 4 (.nilp)) },
  { dst := none, op := .stL 4 (.t 11) (.t 122), pre := [66] }])
 (.seq (.reg true [{ dst := some 123, op := .fa 0 (.t 11) },
  { dst := some 124, op := .ld none (.t 123), pre := [] },
  { dst := some 125, op := .fa 0 (.t 10) },
  { dst := some 126, op := .ld none (.t 125), pre := [] },
  { dst := some 127, op := .call .pure (.c (.fn 29 [] [])) [.t 124, .t 126], pre := [] },
  { dst := some 128, op := .fa 1 (.t 11) },
  { dst := some 129, op := .ld none (.t 128), pre := [] },
  { dst := some 130, op := .fa 1 (.t 10) },
  { dst := some 131, op := .ld none (.t 130), pre := [] },
  { dst := some 132, op := .call .pure (.c (.fn 29 [] [])) [.t 129, .t 131], pre := [] },
  { dst := some 133, op := .fa 2 (.t 11) },
  { dst := some 134, op := .ld none (.t 133), pre := [] },
  { dst := some 135, op := .fa 2 (.t 10) },
  { dst := some 136, op := .ld none (.t 135), pre := [] },
  { dst := some 137, op := .call .pure (.c (.fn 29 [] [])) [.t 134, .t 136], pre := [] },
  { dst := some 138, op := .fa 3 (.t 11) },
  { dst := some 139, op := .ld none (.t 138), pre := [] },
  { dst := some 140, op := .fa 3 (.t 10) },
  { dst := some 141, op := .ld none (.t 140), pre := [] },
  { dst := some 142, op := .call .pure (.c (.fn 29 [] [])) [.t 139, .t 141], pre := [] },
  { dst := some 143, op := .build (List.replicate 4 (.nilp)) [(0, 1, .t 127), (1, 1, .t 132), (2, 1, .t 137), (3, 1, .t 142)] },
  { dst := none, op := .st 4 (.t 11) (.t 143), pre := [] }])
 (.seq (.seq (.reg false [{ dst := some 144, op := .fa 0 (.t 11) },
  { dst := some 145, op := .ld none (.t 144) },
  { dst := some 146, op := .fa 0 (.t 10) },
  { dst := some 147, op := .ld none (.t 146) },
  { dst := some 148, op := .call .pure (.c (.fn 36 [] [])) [.t 145, .t 147] },
  { dst := some 149, op := .mv (.t 148) },
  { dst := some 150, op := .fa 1 (.t 11), grd := some (149, true) },
  { dst := some 151, op := .ld none (.t 150), grd := some (149, true) },
  { dst := some 152, op := .fa 1 (.t 10), grd := some (149, true) },
  { dst := some 153, op := .ld none (.t 152), grd := some (149, true) },
  { dst := some 154, op := .call .pure (.c (.fn 36 [] [])) [.t 151, .t 153], grd := some (149, true) },
  { dst := some 155, op := .pick (.t 149) (.t 154) (.c (.b false)) },
  { dst := some 156, op := .mv (.t 155) },
  { dst := some 157, op := .fa 2 (.t 11), grd := some (156, true) },
  { dst := some 158, op := .ld none (.t 157), grd := some (156, true) },
  { dst := some 159, op := .fa 2 (.t 10), grd := some (156, true) },
  { dst := some 160, op := .ld none (.t 159), grd := some (156, true) },
  { dst := some 161, op := .call .pure (.c (.fn 36 [] [])) [.t 158, .t 160], grd := some (156, true) },
  { dst := some 162, op := .pick (.t 156) (.t 161) (.c (.b false)) },
  { dst := some 163, op := .mv (.t 162) },
  { dst := some 164, op := .fa 3 (.t 11), grd := some (163, true) },
  { dst := some 165, op := .ld none (.t 164), grd := some (163, true) },
  { dst := some 166, op := .fa 3 (.t 10), grd := some (163, true) },
  { dst := some 167, op := .ld none (.t 166), grd := some (163, true) },
  { dst := some 168, op := .call .pure (.c (.fn 36 [] [])) [.t 165, .t 167], grd := some (163, true) },
  { dst := some 169, op := .pick (.t 163) (.t 168) (.c (.b false)) }])
 (.cond (.t 169) (.seq (.reg false [{ dst := some 170, op := .ld (some 4) (.t 11) },
  { dst := none, op := .st 4 (.t 2) (.t 170) }])
 .ret)
 .skip))
 (.reg false [{ dst := some 171, op := .ld (some 4) (.t 11) },
  { dst := none, op := .st 4 (.t 10) (.t 171) }]))))))))))))))) }
def A_xref19_Ppo : AFun := { res := [.t 2], body := (.seq (.reg false [{ dst := some 1, op := .box (.t 0) },
  { dst := some 2, op := .mv (.c (.nilp)) }])
 (.seq (.reg false [{ dst := some 6, op := .ld (some 8) (.t 1) },
  { dst := some 7, op := .call .pure (.c (.fn 171 [] [])) [.t 6] },
  { dst := some 3, op := .new (List.replicate 4 (.nilp)) },
  { dst := none, op := .st 4 (.t 3) (.t 7) }])
 (.seq (.reg true [{ dst := some 8, op := .ld (some 8) (.t 1), pre := [] },
  { dst := some 9, op := .call .pure (.c (.fn 225 [] [])) [.t 8, .c (.i .i64 1), .c (.i .i64 0), .c (.i .i64 4)], pre := [] },
  { dst := some 10, op := .ld (some 8) (.t 1), pre := [] },
  { dst := some 11, op := .call .pure (.c (.fn 225 [] [])) [.t 10, .c (.i .i64 2), .c (.i .i64 0), .c (.i .i64 4)], pre := [] },
  { dst := some 4, op := .mv (.t 9) },
  { dst := some 5, op := .mv (.t 11) }])
 (.seq (.reg true [{ dst := some 12, op := .mv (.t 4) },
  { dst := some 13, op := .fa 0 (.t 3) },
  { dst := some 14, op := .ld none (.t 13), pre := [] },
  { dst := some 15, op := .call .pure (.c (.fn 32 [] [])) [.t 12, .t 14], pre := [] },
  { dst := some 16, op := .mv (.t 4) },
  { dst := some 17, op := .call .pure (.c (.fn 32 [] [])) [.t 15, .t 16], pre := [] },
  { dst := some 18, op := .mv (.t 4) },
  { dst := some 19, op := .fa 1 (.t 3) },
  { dst := some 20, op := .ld none (.t 19), pre := [] },
  { dst := some 21, op := .call .pure (.c (.fn 32 [] [])) [.t 18, .t 20], pre := [] },
  { dst := some 22, op := .mv (.t 5) },
  { dst := some 23, op := .call .pure (.c (.fn 32 [] [])) [.t 21, .t 22], pre := [] },
  { dst := some 24, op := .call .pure (.c (.fn 29 [] [])) [.t 17, .t 23], pre := [] },
  { dst := some 2, op := .mv (.t 24) }])
 .ret)))) }
def A_xref19_Rdw : AFun := { res := [.t 2], body := (.seq (.reg false [{ dst := some 1, op := .box (.t 0) },
  { dst := some 2, op := .mv (.c (.nilp)) }])
 (.seq (.reg true [{ dst := some 3, op := .ld (some 8) (.t 1), pre := [] },
  { dst := some 4, op := .call .pure (.c (.fn 224 [] [])) [.t 3], pre := [] },
  { dst := some 5, op := .ld (some 8) (.t 1), pre := [] },
  { dst := some 6, op := .call .pure (.c (.fn 226 [] [])) [.t 5], pre := [] },
  { dst := some 7, op := .ld (some 8) (.t 1), pre := [] },
  { dst := some 8, op := .call .pure (.c (.fn 227 [] [])) [.t 7], pre := [] },
  { dst := some 9, op := .call .pure (.c (.fn 32 [] [])) [.t 6, .t 8], pre := [] },
  { dst := some 10, op := .call .pure (.c (.fn 30 [] [])) [.t 4, .t 9], pre := [] },
  { dst := some 2, op := .mv (.t 10) }])
 .ret)) }
def A_xref19_Detour : AFun := { res := [.t 2], body := (.seq (.reg false [{ dst := some 1, op := .box (.t 0) },
  { dst := some 2, op := .mv (.c (.nilp)) }])
 (.seq (.reg true [{ dst := some 3, op := .ld (some 8) (.t 1), pre := [] },
  { dst := some 4, op := .call .pure (.c (.fn 224 [] [])) [.t 3], pre := [] },
  { dst := some 5, op := .ld (some 8) (.t 1), pre := [] },
  { dst := some 6, op := .call .pure (.c (.fn 228 [] [])) [.t 5], pre := [] },
  { dst := some 7, op := .ld (some 8) (.t 1), pre := [] },
  { dst := some 8, op := .call .pure (.c (.fn 227 [] [])) [.t 7], pre := [] },
  { dst := some 9, op := .call .pure (.c (.fn 32 [] [])) [.t 6, .t 8], pre := [] },
  { dst := some 10, op := .call .pure (.c (.fn 30 [] [])) [.t 4, .t 9], pre := [] },
  { dst := some 2, op := .mv (.t 10) }])
 .ret)) }
def A_xref19_M : AFun := { res := [.t 2], body := (.seq (.reg false [{ dst := some 1, op := .box (.t 0) },
  { dst := some 2, op := .mv (.c (.nilp)) }])
 (.seq (.reg true [{ dst := some 3, op := .ld (some 8) (.t 1), pre := [] },
  { dst := some 4, op := .call .pure (.c (.fn 225 [] [])) [.t 3, .c (.i .i64 1), .c (.i .i64 0), .c (.i .i64 4)], pre := [] },
  { dst := some 5, op := .ld (some 8) (.t 1), pre := [] },
  { dst := some 6, op := .call .pure (.c (.fn 225 [] [])) [.t 5, .c (.i .i64 2), .c (.i .i64 0), .c (.i .i64 4)], pre := [] },
  { dst := some 7, op := .call .pure (.c (.fn 29 [] [])) [.t 4, .t 6], pre := [] },
  { dst := some 2, op := .mv (.t 7) }])
 .ret)) }
def A_xref19_Ploc : AFun := { res := [.t 2], body := (.seq (.reg false [{ dst := some 1, op := .box (.t 0) },
  { dst := some 2, op := .mv (.c (.nilp)) }])
 (.seq (.reg true [{ dst := some 3, op := .ld (some 8) (.t 1), pre := [] },
  { dst := some 4, op := .ld (some 8) (.t 1), pre := [] },
  { dst := some 5, op := .call .pure (.c (.fn 73 [] [])) [.t 4], pre := [] },
  { dst := some 6, op := .call .pure (.c (.fn 247 [] [])) [.t 3, .t 5], pre := [] },
  { dst := some 2, op := .mv (.t 6) }])
 .ret)) }
def A_xref19_fre : AFun := { res := [.t 2], body := (.seq (.reg false [{ dst := some 1, op := .box (.t 0) },
  { dst := some 2, op := .mv (.c (.nilp)) }])
 (.seq (.reg true [{ dst := some 3, op := .ld (some 8) (.t 1), pre := [] },
  { dst := some 4, op := .ld (some 8) (.t 1), pre := [] },
  { dst := some 5, op := .call .pure (.c (.fn 71 [] [])) [.t 4], pre := [] },
  { dst := some 6, op := .call .pure (.c (.fn 75 [] [])) [.t 3, .t 5], pre := [] },
  { dst := some 2, op := .mv (.t 6) }])
 .ret)) }
def A_xref19_rfe : AFun := { res := [.t 2], body := (.seq (.reg false [{ dst := some 1, op := .box (.t 0) },
  { dst := some 2, op := .mv (.c (.nilp)) }])
 (.seq (.reg true [{ dst := some 3, op := .ld (some 8) (.t 1), pre := [] },
  { dst := some 4, op := .ld (some 8) (.t 1), pre := [] },
  { dst := some 5, op := .call .pure (.c (.fn 69 [] [])) [.t 4], pre := [] },
  { dst := some 6, op := .call .pure (.c (.fn 75 [] [])) [.t 3, .t 5], pre := [] },
  { dst := some 2, op := .mv (.t 6) }])
 .ret)) }
def A_xref19_coe : AFun := { res := [.t 2], body := (.seq (.reg false [{ dst := some 1, op := .box (.t 0) },
  { dst := some 2, op := .mv (.c (.nilp)) }])
 (.seq (.reg true [{ dst := some 3, op := .ld (some 8) (.t 1), pre := [] },
  { dst := some 4, op := .ld (some 8) (.t 1), pre := [] },
  { dst := some 5, op := .call .pure (.c (.fn 70 [] [])) [.t 4], pre := [] },
  { dst := some 6, op := .call .pure (.c (.fn 75 [] [])) [.t 3, .t 5], pre := [] },
  { dst := some 2, op := .mv (.t 6) }])
 .ret)) }
def A_xref19_Mine : AFun := { res := [.t 4], body := (.seq (.reg false [{ dst := some 2, op := .box (.t 0) },
  { dst := some 4, op := .mv (.c (.nilp)) }])
 (.seq (.reg false [{ dst := some 8, op := .mv (.t 1) },
  { dst := some 9, op := .nilck (.t 8) },
  { dst := some 10, op := .fa 0 (.t 9) },
  { dst := some 11, op := .ld none (.t 10) },
  { dst := some 12, op := .call .thaw (.c (.fn 27 [] [])) [.t 11, .c (.sl [] 0 .rig)] },
  { dst := some 5, op := .mv (.t 12) }])
 (.seq (.seq (.reg false [{ dst := some 6, op := .mv (.c (.i .i64 0)) }])
 (.blk 0 (.loop (.seq (.seq (.reg false [{ dst := some 13, op := .mv (.t 6) },
  { dst := some 14, op := .mv (.t 1) },
  { dst := some 15, op := .nilck (.t 14) },
  { dst := some 16, op := .fa 0 (.t 15) },
  { dst := some 17, op := .ld none (.t 16) },
  { dst := some 18, op := .bin .lss (.t 13) (.t 17) }])
 (.cond (.t 18) .skip
 (.ext 0)))
 (.seq (.blk 1 (.seq (.reg false [{ dst := some 7, op := .mv (.c (.i .i64 0)) }])
 (.blk 2 (.loop (.seq (.seq (.reg false [{ dst := some 21, op := .mv (.t 7) },
  { dst := some 22, op := .mv (.t 1) },
  { dst := some 23, op := .nilck (.t 22) },
  { dst := some 24, op := .fa 0 (.t 23) },
  { dst := some 25, op := .ld none (.t 24) },
  { dst := some 26, op := .bin .lss (.t 21) (.t 25) }])
 (.cond (.t 26) .skip
 (.ext 2)))
 (.seq (.blk 3 (.reg true [{ dst := some 29, op := .mv (.t 5) },
  { dst := some 30, op := .mv (.t 6) },
  { dst := some 31, op := .mv (.t 7) },
  { dst := some 32, op := .mv (.t 1) },
  { dst := some 33, op := .mv (.t 6) },
  { dst := some 34, op := .mv (.t 7) },
  { dst := some 35, op := .nilck (.t 32) },
  { dst := some 36, op := .fa 1 (.t 35) },
  { dst := some 37, op := .iaa 40 40 (.t 36) (.t 33) },
  { dst := some 38, op := .iaa 40 1 (.t 37) (.t 34) },
  { dst := some 39, op := .ld none (.t 38), pre := [] },
  { dst := some 40, op := .mv (.t 39) },
  { dst := some 41, op := .fa 1 (.t 2), grd := some (40, true) },
  { dst := some 42, op := .ld none (.t 41), grd := some (40, true), pre := [] },
  { dst := some 43, op := .mv (.t 6), grd := some (40, true) },
  { dst := some 44, op := .ia 6 (.t 42) (.t 43), grd := some (40, true) },
  { dst := some 45, op := .fa 0 (.t 44), grd := some (40, true) },
  { dst := some 46, op := .ld none (.t 45), grd := some (40, true), pre := [] },
  { dst := some 47, op := .bin .gtr (.t 46) (.c (.i .i64 0)), grd := some (40, true) },
  { dst := some 48, op := .pick (.t 40) (.t 47) (.c (.b false)) },
  { dst := some 49, op := .mv (.t 48) },
  { dst := some 50, op := .fa 1 (.t 2), grd := some (49, true) },
  { dst := some 51, op := .ld none (.t 50), grd := some (49, true), pre := [] },
  { dst := some 52, op := .mv (.t 6), grd := some (49, true) },
  { dst := some 53, op := .ia 6 (.t 51) (.t 52), grd := some (49, true) },
  { dst := some 54, op := .fa 0 (.t 53), grd := some (49, true) },
  { dst := some 55, op := .ld none (.t 54), grd := some (49, true), pre := [] },
  { dst := some 56, op := .fa 1 (.t 2), grd := some (49, true) },
  { dst := some 57, op := .ld none (.t 56), grd := some (49, true), pre := [] },
  { dst := some 58, op := .mv (.t 7), grd := some (49, true) },
  { dst := some 59, op := .ia 6 (.t 57) (.t 58), grd := some (49, true) },
  { dst := some 60, op := .fa 0 (.t 59), grd := some (49, true) },
  { dst := some 61, op := .ld none (.t 60), grd := some (49, true), pre := [] },
  { dst := some 62, op := .bin .eql (.t 55) (.t 61), grd := some (49, true) },
  { dst := some 63, op := .pick (.t 49) (.t 62) (.c (.b false)) },
  { dst := some 64, op := .nilck (.t 29) },
  { dst := some 65, op := .fa 1 (.t 64) },
  { dst := some 66, op := .iaa 40 40 (.t 65) (.t 30) },
  { dst := some 67, op := .iaa 40 1 (.t 66) (.t 31) },
  { dst := none, op := .st 1 (.t 67) (.t 63), pre := [] }]))
 (.reg false [{ dst := some 27, op := .mv (.t 7) },
  { dst := some 28, op := .bin .add (.t 27) (.c (.i .i64 1)) },
  { dst := some 7, op := .mv (.t 28) }])))))))
 (.reg false [{ dst := some 19, op := .mv (.t 6) },
  { dst := some 20, op := .bin .add (.t 19) (.c (.i .i64 1)) },
  { dst := some 6, op := .mv (.t 20) }]))))))
 (.seq (.reg false [{ dst := some 68, op := .mv (.t 5) },
  { dst := some 4, op := .mv (.t 68) }])
 .ret)))) }
structure Pk_xref19 (F : Funs) : Prop where
  xref19_Parts : F 171 = some A_xref19_Parts
  xref19_Ppo : F 173 = some A_xref19_Ppo
  xref19_Rdw : F 174 = some A_xref19_Rdw
  xref19_Detour : F 175 = some A_xref19_Detour
  xref19_M : F 222 = some A_xref19_M
  xref19_Ploc : F 224 = some A_xref19_Ploc
  xref19_fre : F 226 = some A_xref19_fre
  xref19_rfe : F 227 = some A_xref19_rfe
  xref19_coe : F 228 = some A_xref19_coe
  xref19_Mine : F 247 = some A_xref19_Mine
end Go.Ab
end
section
set_option linter.unusedVariables false
set_option linter.unusedSimpArgs false
namespace Go.Ab
variable {F : Funs}
theorem RefF.co (S : RefF F) {X : Gr} (hX : FewG X) (h : GraphOk X) : pureS F 70 [.agg (grC X)] = some (.ptr (matC X.evs.length (anyM (coX X X.co.length)))) :=
  sp_mCo S.p9.xref09_Co S.px.xref01_New (X := X) h.n40 (by have := hX.co; omega) (fun j hj => by
    have hm : X.co.getD j [] ∈ X.co := by
      rw [List.getD_eq_getElem?_getD, List.getElem?_eq_getElem hj]; exact List.getElem_mem hj
    have := hX.cos _ hm
    have n40 := h.n40
    exact ⟨by omega, fun i hi => by have := h.cor j hj i hi; omega⟩)
theorem RefF.fr (S : RefF F) {X : Gr} (hX : FewG X) (h : GraphOk X) : pureS F 71 [.agg (grC X)] = some (.ptr (matC X.evs.length (frM X.evs.length (anyM (rfL X X.rf.length)) (anyM (coX X X.co.length))))) :=
  sp_mFr S.p9.xref09_Fr S.px.xref01_New S.px.xref01_R_Then S.px.xref01_R_Back h.n40 (S.rf h) (S.co hX h)
section
variable {X : Gr} (h : GraphOk X)
include h
end
section
variable {X : Gr} (h : GraphOk X)
include h
end
set_option maxRecDepth 100000 in
section
variable (S : RefF F) (p : Pk_xref19 F) {X : Gr} (hX : FewG X) (h : GraphOk X)
include S p hX h
end
end Go.Ab
end
section
set_option linter.unusedVariables false
set_option linter.unusedSimpArgs false
namespace Go.Ab
variable {F : Funs}
theorem lck_miss {g : G} {v : AV} {i : Nat} {b : Blk} (h : g.hp i = some b) (hv : (vis g.hp depth v).contains i = false) : (lckG g v).hp i = some b := by
  unfold lckG lock
  simp only [hv]
  exact h
theorem vis_mpf {hp : Nat → Option Blk} {id off : Nat} {cs : List AV} (h : hp id = some (.cells cs false)) (hf : cs.all flat = true) : vis hp depth (.mp id off) = [id] := by
  show vis hp (8 + 1) _ = _
  have h0 : ∀ l : List AV, l.all flat = true → l.flatMap (vis hp 8) = [] := by
    intro l hl
    rw [List.flatMap_eq_nil_iff]
    intro v hv
    exact vis_flat (d := 7) (List.all_eq_true.1 hl v hv)
  generalize (8 : Nat) = m at h0
  simp only [vis, h]
  rw [h0 _ (by rw [List.all_eq_true] at hf ⊢; exact fun v hv => hf v (List.mem_of_mem_drop hv))]
  rfl
def r11 (X : Gr) : Mx := opM (fun x y => x || y) (newM X.evs.length X.data) (newM X.evs.length X.ctrl) X.evs.length
def deps11 (X : Gr) : Mx := opM (fun x y => x || y) (r11 X) (thM (kindK X oEx X.evs.length) (mpoM X) X.evs.length X.evs.length) X.evs.length
set_option maxRecDepth 100000 in
set_option maxHeartbeats 4000000 in
theorem m11_deps (h256 : F 256 = some A_xref11_Deps) (S : RefF F) {X : Gr} (h : GraphOk X) (hd : X.data.length ≤ 1000) (hc : X.ctrl.length ≤ 1000) : pureS F 256 [.agg (grC X)] = some (.ptr (matC X.evs.length (deps11 X))) := by
  refine pure_of h256 ?_
  have hn := h.n40
  have fin0 : deps11 X = opM (fun x y => x || y) (r11 X) (thM (kindK X oEx X.evs.length) (mpoM X) X.evs.length X.evs.length) X.evs.length := rfl
  have r11d : r11 X = opM (fun x y => x || y) (newM X.evs.length X.data) (newM X.evs.length X.ctrl) X.evs.length := rfl
  simp (disch := omega) only [A_xref11_Deps, wp, Nat.reduceAdd, Nat.reduceMul, Nat.reduceSub, gl, ml, S.ofL h, S.or h, thaw27 S.px.xref01_New]
  rw [← r11d]
  generalize r11 X = R0 at fin0
  refine W_loop (fun q e g => ∃ a : Nat, q = X.evs.length - a ∧ a ≤ X.evs.length ∧ e 1 = .mp 0 0 ∧ e 3 = .ptr (matC X.evs.length R0) ∧ e 4 = .mp 15 0 ∧ e 5 = .i .i64 a ∧ g.hp 0 = some (.cells (grC X) false) ∧ g.hp 15 = some (.cells (matC X.evs.length (kindK X oEx a)) false) ∧ 15 < g.nx) X.evs.length ?_ ?_
  · refine ⟨0, rfl, Nat.zero_le _, ?_⟩
    simp (disch := omega) only [wp, Nat.reduceAdd, Nat.reduceMul, Nat.reduceSub]
    exact ⟨rfl, by rw [kindK_0], by first | omega | (dsimp only; omega)⟩
  · rintro q e g ⟨a, rfl, ha, e1, e3, e4, e5, hg, hm, hnx⟩
    by_cases ha' : a < X.evs.length
    · have ha1 : (a : Int) < X.evs.length := by omega
      have hwa := succ_wrap (k := a) (by omega)
      have kA := ev_kd_at ha'
      have xA := ev_ex_at ha'
      have dA : (List.drop (a * 6) (evsC X.evs)).length = X.evs.length * 6 - a * 6 := by rw [List.length_drop, evsC_len]
      have hs := kindK_succ X oEx a
      have hset := fun x => matC_set (n := X.evs.length) (M := kindK X oEx a) (a := a) (b := a) (x := x) (by omega)
      have hq : oEx (X.evs.getD a ev0) = ((X.evs.getD a ev0).kd == 1 && (X.evs.getD a ev0).ex) := rfl
      rw [hq] at hs
      generalize (X.evs.getD a ev0).kd = kd at kA hs
      generalize (X.evs.getD a ev0).ex = ex at xA hs
      have fin : ∀ x, x = (kd == 1 && ex) → X.evs.length - (a + 1) < X.evs.length - a ∧ upd2 (kindK X oEx a) a a x = kindK X oEx (a + 1) := fun x hx => ⟨by omega, by rw [hx, hs]⟩
      cases c0 : (kd == 1)
      case false =>
        simp (disch := omega) only [wp, Nat.reduceAdd, Nat.reduceMul, Nat.reduceSub, gl, ml, e1, e3, e4, e5, hg, hm, ha1, kA, xA, dA, c0, hset, hwa]
        obtain ⟨f1, f2⟩ := fin false (by rw [c0]; rfl)
        exact ⟨_, f1, a + 1, rfl, by omega, rfl, by rw [f2], by first | omega | (dsimp only; omega)⟩
      simp (disch := omega) only [wp, Nat.reduceAdd, Nat.reduceMul, Nat.reduceSub, gl, ml, e1, e3, e4, e5, hg, hm, ha1, kA, xA, dA, c0, hset, hwa]
      obtain ⟨f1, f2⟩ := fin ex (by rw [c0]; rfl)
      exact ⟨_, f1, a + 1, rfl, by omega, rfl, by rw [f2], by first | omega | (dsimp only; omega)⟩
    · obtain rfl : a = X.evs.length := by omega
      have ha1 : ¬ ((X.evs.length : Int) < X.evs.length) := by omega
      simp (disch := omega) only [wp, Nat.reduceAdd, Nat.reduceMul, Nat.reduceSub, gl, ml, e1, e3, e4, e5, hg, hm, ha1]
      refine W_immM (fun e g => e 1 = .mp 0 0 ∧ e 3 = .ptr (matC X.evs.length R0) ∧ e 4 = .mp 15 0 ∧ g.hp 0 = some (.cells (grC X) false) ∧ g.hp 15 = some (.cells (matC X.evs.length (kindK X oEx X.evs.length)) false) ∧ 15 < g.nx) ?_ ?_
      · simp (disch := omega) only [wp, Nat.reduceAdd, Nat.reduceMul, Nat.reduceSub, gl, e1, e3, e4, e5, hg, hm]
        exact (by first | omega | (dsimp only; omega))
      · rintro e g ⟨e1, e3, e4, hg, hm, hnx⟩
        have hfz : frz g.hp depth (e 4) = some (.ptr (matC X.evs.length (kindK X oEx X.evs.length))) := by
          rw [e4]
          exact frz_d_mp hm (frzL_flat (matC_flat _ _))
        have hg' : (lckG g (e 4)).hp 0 = some (.cells (grC X) false) := by
          rw [e4]
          exact lck_miss hg (by rw [vis_mpf hm (matC_flat _ _)]; rfl)
        rw [W_imm hfz]
        generalize lckG g (e 4) = g' at hg'
        simp (disch := omega) only [wp, Nat.reduceAdd, Nat.reduceMul, Nat.reduceSub, gl, ml, e1, e3, hg', S.po h, S.then h, S.or h, fin0]
theorem EqN.z {n : Nat} (hn : n ≤ 40) {A : Mx} {R : Rw} (h : EqN n A R) : EqN n A (orR (newR n []) R) :=
  ⟨wf_or (wf_new hn _) h.1, fun a b ha hb' => by
    have hz := (EqN.new hn []).2 a b ha hb'
    rw [h.2 a b ha hb', hb_or, ← hz]
    simp [newM]⟩
theorem q_m1 (k f : Int) (e : Ev) : (e.kd == k && e.md == f) = kindQ k f f e := by
  unfold kindQ
  congr 1
  rw [Bool.eq_iff_iff]
  simp
  omega
section
variable {X : Gr} (h : GraphOk X)
include h
theorem eq_oR : EqN X.evs.length (kindK X (kindQ 1 0 1) X.evs.length) (setR X oR) := kq h fun e hk => by
  unfold oR kindQ
  rw [Bool.eq_iff_iff]
  simp
  omega
theorem eq_oW : EqN X.evs.length (kindK X (kindQ 2 0 2) X.evs.length) (setR X oW) := kq h fun e hk => by
  unfold oW kindQ
  rw [Bool.eq_iff_iff]
  simp
  omega
theorem eq_oF : EqN X.evs.length (kindK X (kindQ 3 1 4) X.evs.length) (setR X oF) := kq h fun e hk => by
  unfold oF kindQ
  rw [Bool.eq_iff_iff]
  simp
  omega
theorem eq_oRel : EqN X.evs.length (kindK X (kindQ 2 2 2) X.evs.length) (setR X oRel) := kq h fun e _ => q_m1 2 2 e
theorem eq_oAcq : EqN X.evs.length (kindK X (kindQ 1 1 1) X.evs.length) (setR X oAcq) := kq h fun e _ => q_m1 1 1 e
theorem eq_oSc : EqN X.evs.length (kindK X (kindQ 3 4 4) X.evs.length) (setR X oSc) := kq h fun e _ => q_m1 3 4 e
theorem eq_oEx : EqN X.evs.length (kindK X oEx X.evs.length) (setR X oEx) := EqN.set h fun i hi => rfl
theorem eq_deps : EqN X.evs.length (deps11 X) (depsR X) := by
  unfold depsR
  rw [h.nOf]
  exact (((EqN.new h.n40 X.data).z h.n40).or (EqN.new h.n40 X.ctrl)).or ((eq_oEx h).then (eq_po h))
end
set_option maxRecDepth 100000 in
section
variable (S : RefF F) (p : Pk_xref11 F) (p10 : Pk_xref10 F) {X : Gr} (hX : FewG X) (h : GraphOk X)
include S p p10 hX h
omit S p p10 h in
theorem FewG.l1 : X.data.length ≤ 1000 ∧ X.ctrl.length ≤ 1000 ∧ X.rmw.length ≤ 1000 := by
  have h1 := hX.data
  have h2 := hX.ctrl
  have h3 := hX.rmw
  omega
omit hX in
theorem m11_bob : MIs F 255 X (bobR X) := by
  unfold bobR bobL locR
  rw [h.nOf]
  have e1 := (eq_po h).then (eq_oRel h)
  have e2 := (eq_oAcq h).then (eq_po h)
  have e3 := (eq_po h).then (eq_oF h)
  have e4 := (eq_oF h).then (eq_po h)
  have e5 := ((eq_oRel h).then (eq_loc h)).then (eq_oW h)
  refine ⟨_, pure_of p.xref11_Bob ?_, ((((e1.z h.n40).or e2).or e3).or e4).or e5⟩
  simp (disch := omega) only [A_xref11_Bob, wp, Nat.reduceAdd, Nat.reduceMul, Nat.reduceSub, gl, S.po h, S.k h, mWrel S p10 h, mRacq S p10 h, mW S p10 h, S.loc h, S.then h, S.or h]
omit p10 in
theorem m11_depsI : MIs F 256 X (depsR X) := by
  obtain ⟨l1, l2, l3⟩ := FewG.l1 hX
  exact ⟨_, m11_deps p.xref11_Deps S h l1 l2, eq_deps h⟩
theorem m11_ppo : MIs F 257 X (oppoR X) := by
  obtain ⟨A, hA, eA⟩ := m11_depsI S p hX h
  unfold oppoR rfR
  rw [h.nOf]
  have e1 := ((eq_oR h).then ((eA.or (eq_inner h (eq_rf h))).plus)).then (eq_oW h)
  refine ⟨_, pure_of p.xref11_Ppo ?_, e1⟩
  simp (disch := omega) only [A_xref11_Ppo, wp, Nat.reduceAdd, Nat.reduceMul, Nat.reduceSub, gl, S.k h, S.rf h, S.inner h, hA, S.or h, S.plus h, S.then h, mW S p10 h]
omit p10 in
theorem m11_detour : MIs F 258 X (odetR X) := by
  unfold odetR rfR
  rw [h.nOf]
  have e1 := ((eq_outer h (eq_co h)).then (eq_outer h (eq_rf h))).and (eq_po h)
  refine ⟨_, pure_of p.xref11_Detour ?_, e1⟩
  simp (disch := omega) only [A_xref11_Detour, wp, Nat.reduceAdd, Nat.reduceMul, Nat.reduceSub, gl, S.co hX h, S.rf h, S.outer h, S.then h, S.po h, S.and h]
theorem m11_psc (h83 : F 83 = some A_xref09_Com) (h72 : F 72 = some A_xref09_Eco) : MIs F 259 X (pscR X) := by
  obtain ⟨l1, l2, l3⟩ := FewG.l1 hX
  obtain ⟨A, hA, eA⟩ := mHb S p10 h l3
  have he := sp_mEco h72 S.px.xref01_New S.px.xref01_R_Plus h.n40 (sp_mCom h83 S.px.xref01_New S.px.xref01_R_Or h.n40 (S.rf h) (S.co hX h) (S.fr hX h))
  unfold pscR
  rw [h.nOf]
  have e1 := (((((eq_oSc h).then eA).then (eq_eco h)).then eA).then (eq_oSc h))
  refine ⟨_, pure_of p.xref11_Psc ?_, e1⟩
  simp (disch := omega) only [A_xref11_Psc, wp, Nat.reduceAdd, Nat.reduceMul, Nat.reduceSub, gl, S.k h, hA, he, S.then h]
theorem m11_ar (h83 : F 83 = some A_xref09_Com) (h72 : F 72 = some A_xref09_Eco) : MIs F 260 X (arR X) := by
  obtain ⟨A, hA, eA⟩ := m11_bob S p p10 h
  obtain ⟨B, hB, eB⟩ := m11_ppo S p p10 hX h
  obtain ⟨C, hC, eC⟩ := m11_detour S p hX h
  obtain ⟨D, hD, eD⟩ := m11_psc S p p10 hX h h83 h72
  unfold arR rfR
  rw [h.nOf]
  have e1 := (((((eq_outer h (eq_rf h)).z h.n40).or eA).or eB).or eC).or eD
  refine ⟨_, pure_of p.xref11_Ar ?_, e1⟩
  simp (disch := omega) only [A_xref11_Ar, wp, Nat.reduceAdd, Nat.reduceMul, Nat.reduceSub, gl, S.rf h, S.outer h, hA, hB, hC, hD, S.or h]
end
end Go.Ab
end
section
set_option linter.unusedVariables false
set_option linter.unusedSimpArgs false
namespace Go.Ab
variable {F : Funs}
theorem z10 : ((1 : Int) == 0) = false := rfl
theorem z12 : ((1 : Int) == 2) = false := rfl
theorem z20 : ((2 : Int) == 0) = false := rfl
theorem z21 : ((2 : Int) == 1) = false := rfl
theorem z31 : ((3 : Int) == 1) = false := rfl
theorem z32 : ((3 : Int) == 2) = false := rfl
set_option maxRecDepth 100000 in
set_option maxHeartbeats 4000000 in
theorem st_event (h63 : F 63 = some A_xref06_event) {X : Gr} {i : Nat} (hi : i < X.evs.length) (hl : 1 ≤ X.locs) (hn : X.evs.length ≤ 100) (ok : EvOk X.locs i (X.evs.getD (i - 1) ev0) (X.evs.getD i ev0)) : pureS F 63 [.agg (grC X), .i .i64 i] = some (.b true) := by
  refine pure_of h63 ?_
  have hp := ev_part hi
  have hq := ev_th_at (l := X.evs) (k := i - 1) (by omega)
  have hdl : (List.drop ((i - 1) * 6) (evsC X.evs)).length = X.evs.length * 6 - (i - 1) * 6 := by rw [List.length_drop, evsC_len]
  generalize X.evs.getD i ev0 = ev at hp ok
  generalize X.evs.getD (i - 1) ev0 = pv at hq ok
  obtain ⟨th, kd, md, lc, vl, ex⟩ := ev
  obtain ⟨k1, k2⟩ := ok
  dsimp only at k1 k2
  have s6 : ∀ b1 b2 b3 b4 b5 b6 c1 c2 c3 c4 c5 c6 : AV, splice [b1, b2, b3, b4, b5, b6] 0 [c1, c2, c3, c4, c5, c6] = [c1, c2, c3, c4, c5, c6] := fun _ _ _ _ _ _ _ _ _ _ _ _ => rfl
  by_cases hlt : (i : Int) < X.locs
  · obtain ⟨rfl, rfl, rfl, rfl, rfl, rfl⟩ := k1 hlt
    simp (disch := omega) only [A_xref06_event, wp, Nat.reduceAdd, Nat.reduceMul, Nat.reduceSub, gl, hp, hlt]
  · obtain ⟨t1, t2, t3, k3⟩ := k2 hlt
    have hi0 : 0 < i := by omega
    have hw1 : IntKind.i64.wrap ((i : Int) - 1) = ((i - 1 : Nat) : Int) := by rw [i64_wrap (by omega) (by omega)]; omega
    have hi0' : (0 : Int) < i := by omega
    rcases k3 with ⟨rfl, l1, l2, rfl | rfl⟩ | ⟨rfl, l1, l2, rfl | rfl⟩ | ⟨rfl, m1, m2, rfl, rfl, rfl⟩
    all_goals
      have n1 : ¬ th < 1 := by omega
      have n2 : ¬ 4 < th := by omega
      have n3 : ¬ th < pv.th := by omega
      have n4 : (0 : Int) ≤ 0 := by omega
      have n5 : (0 : Int) < X.locs := by omega
      simp (disch := omega) only [A_xref06_event, wp, Nat.reduceAdd, Nat.reduceMul, Nat.reduceSub, gl, hp, hlt, hi0', hw1, hq, hdl, n1, n2, n3, n4, n5, z10, z12, z20, z21, z31, z32, *]
set_option maxRecDepth 100000 in
set_option maxHeartbeats 4000000 in
theorem st_rf (h64 : F 64 = some A_xref06_rf) {X : Gr} {i : Nat} (hi : i < X.evs.length) (hr : i < X.rf.length) (ok : RfOk X i) : pureS F 64 [.agg (grC X), .i .i64 i] = some (.b true) := by
  refine pure_of h64 ?_
  have hp := ev_part hi
  have hq := ints_part hr
  have hx := fun h => ev_part (l := X.evs) (k := (X.rf.getD i 0).toNat) h
  obtain ⟨ok1, ok2⟩ := ok
  generalize X.evs.getD i ev0 = ev at hp ok1 ok2
  generalize X.rf.getD i 0 = w at hq hx ok1 ok2
  generalize X.evs.getD w.toNat ev0 = xv at hx ok2
  obtain ⟨th, kd, md, lc, vl, ex⟩ := ev
  obtain ⟨th', kd', md', lc', vl', ex'⟩ := xv
  dsimp only at ok1 ok2
  have s6 : ∀ b1 b2 b3 b4 b5 b6 c1 c2 c3 c4 c5 c6 : AV, splice [b1, b2, b3, b4, b5, b6] 0 [c1, c2, c3, c4, c5, c6] = [c1, c2, c3, c4, c5, c6] := fun _ _ _ _ _ _ _ _ _ _ _ _ => rfl
  cases c1 : (kd != 1)
  case true =>
    obtain rfl := ok1 (by simpa using c1)
    simp (disch := omega) only [A_xref06_rf, wp, Nat.reduceAdd, Nat.reduceMul, Nat.reduceSub, gl, hp, hq, c1]
  have hk : kd = 1 := by simpa using c1
  obtain ⟨w0, w1, rfl, rfl, rfl⟩ := ok2 hk
  have hx := hx (by omega)
  have n0 : ¬ w < 0 := by omega
  have n1 : ¬ (X.evs.length : Int) ≤ w := by omega
  simp (disch := omega) only [A_xref06_rf, wp, Nat.reduceAdd, Nat.reduceMul, Nat.reduceSub, gl, hp, hq, c1, hx, n0, n1]
set_option maxRecDepth 100000 in
set_option maxHeartbeats 4000000 in
theorem st_rising (h82 : F 82 = some A_xref06_rising) (l : List (Int × Int)) (t : Tok) (hl : l.length ≤ 1000) (ok : Rising l) : pureS F 82 [.sl (pairsC l) l.length t] = some (.b true) := by
  refine pure_of h82 ?_
  simp (disch := omega) only [A_xref06_rising, wp, Nat.reduceAdd, Nat.reduceMul, Nat.reduceSub, gl]
  refine W_loop (fun q e g => ∃ k : Nat, q = l.length - k ∧ k ≤ l.length ∧ e 0 = .sl (pairsC l) l.length t ∧ e 3 = .i .i64 ((k + 1 : Nat) : Int)) l.length ?_ ?_
  · refine ⟨0, rfl, Nat.zero_le _, ?_⟩
    simp (disch := omega) only [wp, Nat.reduceAdd, Nat.reduceMul, Nat.reduceSub]
    exact rfl
  · rintro q e g ⟨k, rfl, hk, e0, e3⟩
    by_cases hk' : k + 1 < l.length
    · have hk1 : ((k + 1 : Nat) : Int) < l.length := by omega
      have hk0 : (k : Int) < l.length := by omega
      have hwk := succ_wrap (k := k + 1) (by omega)
      have hw1 : IntKind.i64.wrap (((k + 1 : Nat) : Int) - 1) = (k : Int) := by rw [i64_wrap (by omega) (by omega)]; omega
      have a0 := pairs_a (l := l) (k := k) (by omega)
      have b0 := pairs_b (l := l) (k := k) (by omega)
      have a1 := pairs_a hk'
      have b1 := pairs_b hk'
      have d0 : (List.drop (k * 2) (pairsC l)).length = l.length * 2 - k * 2 := by rw [List.length_drop, pairsC_len]
      have d1 : (List.drop ((k + 1) * 2) (pairsC l)).length = l.length * 2 - (k + 1) * 2 := by rw [List.length_drop, pairsC_len]
      have st := ok k hk'
      generalize l.getD k (0, 0) = p at a0 b0 st
      generalize l.getD (k + 1) (0, 0) = q at a1 b1 st
      rcases st with st | ⟨st, st2⟩
      · have c2 : (q.1 == p.1) = false := by simp; omega
        have n1 : ¬ q.1 < p.1 := by omega
        simp (disch := omega) only [wp, Nat.reduceAdd, Nat.reduceMul, Nat.reduceSub, gl, e0, e3, hk1, hk0, hw1, a0, a1, b0, b1, d0, d1, n1, c2, hwk]
        exact ⟨l.length - (k + 1), by omega, k + 1, rfl, by omega, rfl⟩
      · have c2 : (q.1 == p.1) = true := by simp; omega
        have n1 : ¬ q.1 < p.1 := by omega
        have n2 : ¬ q.2 ≤ p.2 := by omega
        simp (disch := omega) only [wp, Nat.reduceAdd, Nat.reduceMul, Nat.reduceSub, gl, e0, e3, hk1, hk0, hw1, a0, a1, b0, b1, d0, d1, n1, n2, c2, hwk]
        exact ⟨l.length - (k + 1), by omega, k + 1, rfl, by omega, rfl⟩
    · have hk1 : ¬ (((k + 1 : Nat) : Int) < l.length) := by omega
      simp (disch := omega) only [wp, Nat.reduceAdd, Nat.reduceMul, Nat.reduceSub, gl, e0, e3, hk1]
set_option maxRecDepth 100000 in
set_option maxHeartbeats 4000000 in
theorem st_deps (h67 : F 67 = some A_xref06_deps) (h82 : F 82 = some A_xref06_rising) (X : Gr) (l : List (Int × Int)) (t : Tok) (hl : l.length ≤ 1000) (ok : DepsOk X l) : pureS F 67 [.agg (grC X), .sl (pairsC l) l.length t] = some (.b true) := by
  refine pure_of h67 ?_
  obtain ⟨ok1, ok2⟩ := ok
  have hr := st_rising h82 l .non hl ok2
  simp (disch := omega) only [A_xref06_deps, wp, Nat.reduceAdd, Nat.reduceMul, Nat.reduceSub, gl]
  refine W_loop (fun q e g => ∃ k : Nat, q = l.length - k ∧ k ≤ l.length ∧ e 1 = .sl (pairsC l) l.length t ∧ e 2 = .mp 0 0 ∧ e 5 = .i .i64 k ∧ g.hp 0 = some (.cells (grC X) false) ∧ 0 < g.nx) l.length ?_ ?_
  · refine ⟨0, rfl, Nat.zero_le _, ?_⟩
    simp (disch := omega) only [wp, Nat.reduceAdd, Nat.reduceMul, Nat.reduceSub]
    exact ⟨rfl, by first | omega | (dsimp only; omega)⟩
  · rintro q e g ⟨k, rfl, hk, e1, e2, e5, hg, hnx⟩
    by_cases hk' : k < l.length
    · have hk1 : (k : Int) < l.length := by omega
      have hwk := succ_wrap (k := k) (by omega)
      have a0 := pairs_a hk'
      have b0 := pairs_b hk'
      have d0 : (List.drop (k * 2) (pairsC l)).length = l.length * 2 - k * 2 := by rw [List.length_drop, pairsC_len]
      obtain ⟨c1, c2, c3, c4, c5⟩ := ok1 k hk'
      generalize l.getD k (0, 0) = p at a0 b0 c1 c2 c3 c4 c5
      obtain ⟨a, b⟩ := p
      simp only at a0 b0 c1 c2 c3 c4 c5
      have ka := ev_kd_at (l := X.evs) (k := a.toNat) (by omega)
      have ta := ev_th_at (l := X.evs) (k := a.toNat) (by omega)
      have tb := ev_th_at (l := X.evs) (k := b.toNat) (by omega)
      have da : (List.drop (a.toNat * 6) (evsC X.evs)).length = X.evs.length * 6 - a.toNat * 6 := by rw [List.length_drop, evsC_len]
      have db : (List.drop (b.toNat * 6) (evsC X.evs)).length = X.evs.length * 6 - b.toNat * 6 := by rw [List.length_drop, evsC_len]
      have c4 : ((X.evs.getD a.toNat ev0).kd != 1) = false := by rw [c4]; rfl
      have c5 : ((X.evs.getD a.toNat ev0).th != (X.evs.getD b.toNat ev0).th) = false := by rw [c5, bne_self_eq_false]
      have n1 : ¬ a < 0 := by omega
      have n2 : ¬ b ≤ a := by omega
      have n3 : ¬ (X.evs.length : Int) ≤ b := by omega
      simp (disch := omega) only [wp, Nat.reduceAdd, Nat.reduceMul, Nat.reduceSub, gl, e1, e2, e5, hg, hk1, a0, b0, d0, n1, n2, n3, ka, ta, tb, da, db, c4, c5, hwk]
      exact ⟨l.length - (k + 1), by omega, k + 1, rfl, by omega, rfl, by first | omega | (dsimp only; omega)⟩
    · obtain rfl : k = l.length := by omega
      have hk1 : ¬ ((l.length : Int) < l.length) := by omega
      simp (disch := omega) only [wp, Nat.reduceAdd, Nat.reduceMul, Nat.reduceSub, gl, e1, e2, e5, hg, hk1, hr]
set_option maxRecDepth 100000 in
set_option maxHeartbeats 4000000 in
theorem st_rmw (h66 : F 66 = some A_xref06_rmw) (h82 : F 82 = some A_xref06_rising) {X : Gr} (hn : X.evs.length ≤ 40) (hl : X.rmw.length ≤ 1000) (ok : RmwOk X) : pureS F 66 [.agg (grC X)] = some (.b true) := by
  refine pure_of h66 ?_
  have hr := st_rising h82 X.rmw .non hl ok.rise
  have s6 : ∀ b1 b2 b3 b4 b5 b6 c1 c2 c3 c4 c5 c6 : AV, splice [b1, b2, b3, b4, b5, b6] 0 [c1, c2, c3, c4, c5, c6] = [c1, c2, c3, c4, c5, c6] := fun _ _ _ _ _ _ _ _ _ _ _ _ => rfl
  simp (disch := omega) only [A_xref06_rmw, wp, Nat.reduceAdd, Nat.reduceMul, Nat.reduceSub, gl, cnt_zero]
  refine blk_cut (fun e g => e 1 = .mp 0 0 ∧ e 3 = .mp 2 0 ∧ g.hp 0 = some (.cells (grC X) false) ∧ g.hp 2 = some (.cells (cntC (inC X.rmw)) false) ∧ 2 < g.nx) ?_ ?_
  · refine W_loop (fun q e g => ∃ k : Nat, q = X.rmw.length - k ∧ k ≤ X.rmw.length ∧ e 1 = .mp 0 0 ∧ e 3 = .mp 2 0 ∧ e 4 = .i .i64 k ∧ g.hp 0 = some (.cells (grC X) false) ∧ g.hp 2 = some (.cells (cntC (inC (X.rmw.take k))) false) ∧ 2 < g.nx) X.rmw.length ?_ ?_
    · refine ⟨0, rfl, Nat.zero_le _, ?_⟩
      simp (disch := omega) only [wp, Nat.reduceAdd, Nat.reduceMul, Nat.reduceSub]
      exact ⟨rfl, by rfl, by first | omega | (dsimp only; omega)⟩
    · rintro q e g ⟨k, rfl, hk, e1, e3, e4, hg, hc, hnx⟩
      by_cases hk' : k < X.rmw.length
      · have hk1 : (k : Int) < X.rmw.length := by omega
        have hwk := succ_wrap (k := k) (by omega)
        have a0 := pairs_a hk'
        have b0 := pairs_b hk'
        have d0 : (List.drop (k * 2) (pairsC X.rmw)).length = X.rmw.length * 2 - k * 2 := by rw [List.length_drop, pairsC_len]
        have hin := inC_take hk'
        have hinl : ∀ i, inC (X.rmw.take k) i ≤ 1000 := fun i => by
          have := inC_le (X.rmw.take k) i
          rw [List.length_take] at this; omega
        obtain ⟨c1, c2, hba, c4, c5, c6, c7, c8, c9⟩ := ok.pairs k hk'
        generalize X.rmw.getD k (0, 0) = p at a0 b0 hin c1 c2 hba c4 c5 c6 c7 c8 c9
        generalize inC (X.rmw.take k) = f at hc hin hinl
        obtain ⟨a, b⟩ := p
        simp only at a0 b0 c1 c2 hba c4 c5 c6 c7 c8 c9
        have hws : IntKind.i64.wrap ((X.evs.length : Int) - 1) = (X.evs.length : Int) - 1 := by rw [i64_wrap (by omega) (by omega)]
        have hwa : IntKind.i64.wrap (a + 1) = a + 1 := by rw [i64_wrap (by omega) (by omega)]
        have c3 : (b != a + 1) = false := by simp [hba]
        have pa := ev_part (l := X.evs) (k := a.toNat) (by omega)
        have pb := ev_part (l := X.evs) (k := b.toNat) (by omega)
        have hal : a < X.evs.length := by omega
        have hbl : b < X.evs.length := by omega
        generalize X.evs.getD a.toNat ev0 = u at pa c4 c5 c6 c7 c8 c9
        generalize X.evs.getD b.toNat ev0 = v at pb c4 c5 c6 c7 c8 c9
        obtain ⟨th, kd, md, lc, vl, ex⟩ := u
        obtain ⟨th', kd', md', lc', vl', ex'⟩ := v
        simp only at c4 c5 c6 c7 c8 c9
        subst c4 c5 c6 c7 c8 c9
        have p1 : ¬ a < 0 := by omega
        have p2 : ¬ (X.evs.length : Int) - 1 ≤ a := by omega
        have n1 : (th != th) = false := by simp
        have n2 : (lc != lc) = false := by simp
        have n3 : ((1 : Int) != 1) = false := rfl
        have n4 : ((2 : Int) != 2) = false := rfl
        have ra := cnt_at (f := f) (a := a.toNat) (by omega)
        have hf1 := succ_wrap (k := f a.toNat) (by have := hinl a.toNat; omega)
        have sa := cnt_set (f := f) (a := a.toNat) (n := f a.toNat + 1) (by omega)
        have rb := cnt_at (f := upd f a.toNat (f a.toNat + 1)) (a := b.toNat) (by omega)
        rw [upd_ne _ _ (by omega)] at rb
        have hf2 := succ_wrap (k := f b.toNat) (by have := hinl b.toNat; omega)
        have sb := cnt_set (f := upd f a.toNat (f a.toNat + 1)) (a := b.toNat) (n := f b.toNat + 1) (by omega)
        have hfin : upd (upd f a.toNat (f a.toNat + 1)) b.toNat (f b.toNat + 1) = inC (X.rmw.take (k + 1)) := by
          funext i
          rw [hin i]
          unfold upd inB
          by_cases i1 : i = b.toNat
          · have : (b == (i : Int)) = true := by simp; omega
            rw [if_pos i1, this, Bool.or_true, if_pos rfl, i1]
          · rw [if_neg i1]
            have n1 : (b == (i : Int)) = false := by simp; omega
            by_cases i2 : i = a.toNat
            · have : (a == (i : Int)) = true := by simp; omega
              rw [if_pos i2, this, Bool.true_or, if_pos rfl, i2]
            · have n2 : (a == (i : Int)) = false := by simp; omega
              rw [if_neg i2, n1, n2]; rfl
        simp (disch := omega) only [wp, Nat.reduceAdd, Nat.reduceMul, Nat.reduceSub, gl, e1, e3, e4, hg, hc, hk1, a0, b0, d0, p1, p2, hws, hwa, c3, pa, pb, s6, n1, n2, n3, n4, cntC_len, ra, hf1, sa, rb, hf2, sb, hfin, hwk]
        exact ⟨X.rmw.length - (k + 1), by omega, k + 1, rfl, by omega, rfl, rfl, by first | omega | (dsimp only; omega)⟩
      · obtain rfl : k = X.rmw.length := by omega
        have hk1 : ¬ ((X.rmw.length : Int) < X.rmw.length) := by omega
        rw [List.take_length] at hc
        simp (disch := omega) only [wp, Nat.reduceAdd, Nat.reduceMul, Nat.reduceSub, gl, e1, e3, e4, hg, hc, hk1]
        exact (by first | omega | (dsimp only; omega))
  · rintro e g ⟨e1, e3, hg, hc, hnx⟩
    have hev := ok.once
    generalize inC X.rmw = f at hc hev
    simp (disch := omega) only [wp, Nat.reduceAdd, Nat.reduceMul, Nat.reduceSub, e1, e3]
    refine W_loop (fun q e g => ∃ k : Nat, q = X.evs.length - k ∧ k ≤ X.evs.length ∧ e 1 = .mp 0 0 ∧ e 3 = .mp 2 0 ∧ e 9 = .i .i64 k ∧ g.hp 0 = some (.cells (grC X) false) ∧ g.hp 2 = some (.cells (cntC f) false) ∧ 2 < g.nx) X.evs.length ?_ ?_
    · refine ⟨0, rfl, Nat.zero_le _, ?_⟩
      simp (disch := omega) only [wp, Nat.reduceAdd, Nat.reduceMul, Nat.reduceSub, e1, e3]
      exact ⟨rfl, hg, hc, by first | omega | (dsimp only; omega)⟩
    · rintro q e g ⟨k, rfl, hk, e1, e3, e9, hg, hc, hnx⟩
      by_cases hk' : k < X.evs.length
      · have hk1 : (k : Int) < X.evs.length := by omega
        have hk40 : (k : Int) < 40 := by omega
        have hwk := succ_wrap (k := k) (by omega)
        have rk := cnt_at (f := f) (a := k) (by omega)
        have hex := ev_ex_at hk'
        have hdl : (List.drop (k * 6) (evsC X.evs)).length = X.evs.length * 6 - k * 6 := by rw [List.length_drop, evsC_len]
        obtain ⟨c1, c2⟩ := hev k hk'
        generalize (X.evs.getD k ev0).ex = ex at hex c2
        have c2 : (ex == ((f k : Int) == 1)) = true := by rw [c2]; simp
        have p1 : ¬ 1 < (f k : Int) := by omega
        simp (disch := omega) only [wp, Nat.reduceAdd, Nat.reduceMul, Nat.reduceSub, gl, e1, e3, e9, hg, hc, hk1, rk, p1, hex, hdl, c2, hwk]
        exact ⟨X.evs.length - (k + 1), by omega, k + 1, rfl, by omega, rfl, by first | omega | (dsimp only; omega)⟩
      · obtain rfl : k = X.evs.length := by omega
        have hk1 : ¬ ((X.evs.length : Int) < X.evs.length) := by omega
        simp (disch := omega) only [wp, Nat.reduceAdd, Nat.reduceMul, Nat.reduceSub, gl, e1, e3, e9, hg, hc, hk1, hr]
set_option maxRecDepth 100000 in
set_option maxHeartbeats 4000000 in
theorem st_co (h65 : F 65 = some A_xref06_co) {X : Gr} {loc : Nat} (hl : loc < X.co.length) (hn : X.evs.length ≤ 100) (hc : (X.co.getD loc []).length ≤ 100) (ok : CoOk X loc) : pureS F 65 [.agg (grC X), .i .i64 loc] = some (.b true) := by
  refine pure_of h65 ?_
  have hp := co_part hl
  obtain ⟨ok1, ok2, ok3, ok4, ok5⟩ := ok
  generalize X.co.getD loc [] = l at hp hc ok1 ok2 ok3 ok4 ok5
  simp (disch := omega) only [A_xref06_co, wp, Nat.reduceAdd, Nat.reduceMul, Nat.reduceSub, gl, hp]
  refine blk_cut (fun e g => e 1 = .i .i64 loc ∧ e 2 = .mp 0 0 ∧ e 5 = .sl (intsC l) l.length .non ∧ e 6 = .i .i64 (cntW X loc X.evs.length : Nat) ∧ g.hp 0 = some (.cells (grC X) false) ∧ 0 < g.nx) ?_ ?_
  · refine W_loop (fun q e g => ∃ k : Nat, q = X.evs.length - k ∧ k ≤ X.evs.length ∧ e 1 = .i .i64 loc ∧ e 2 = .mp 0 0 ∧ e 5 = .sl (intsC l) l.length .non ∧ e 6 = .i .i64 (cntW X loc k : Nat) ∧ e 7 = .i .i64 k ∧ g.hp 0 = some (.cells (grC X) false) ∧ 0 < g.nx) X.evs.length ?_ ?_
    · refine ⟨0, rfl, Nat.zero_le _, ?_⟩
      simp (disch := omega) only [wp, Nat.reduceAdd, Nat.reduceMul, Nat.reduceSub]
      exact ⟨rfl, rfl, by first | omega | (dsimp only; omega)⟩
    · rintro q e g ⟨k, rfl, hk, e1, e2, e5, e6, e7, hg, hnx⟩
      by_cases hk' : k < X.evs.length
      · have hk1 : (k : Int) < X.evs.length := by omega
        have hwk := succ_wrap (k := k) (by omega)
        have hkd := ev_kd_at hk'
        have hlc := ev_lc_at hk'
        have hdl : (List.drop (k * 6) (evsC X.evs)).length = X.evs.length * 6 - k * 6 := by rw [List.length_drop, evsC_len]
        have hs := cntW_succ (loc := loc) hk'
        have hle := cntW_le X loc k
        unfold isWr at hs
        generalize cntW X loc k = c at e6 hs hle
        have hwc := succ_wrap (k := c) (by omega)
        generalize X.evs.getD k ev0 = ev at hkd hlc hs
        cases c1 : (ev.kd == 2)
        case false =>
          rw [c1] at hs
          simp (disch := omega) only [wp, Nat.reduceAdd, Nat.reduceMul, Nat.reduceSub, gl, e1, e2, e5, e6, e7, hg, hk1, hkd, hlc, hdl, c1, hwk]
          refine ⟨X.evs.length - (k + 1), by omega, k + 1, rfl, by omega, by rw [hs]; rfl, rfl, by first | omega | (dsimp only; omega)⟩
        cases c2 : (ev.lc == (loc : Int))
        case false =>
          rw [c1, c2] at hs
          simp (disch := omega) only [wp, Nat.reduceAdd, Nat.reduceMul, Nat.reduceSub, gl, e1, e2, e5, e6, e7, hg, hk1, hkd, hlc, hdl, c1, c2, hwk]
          refine ⟨X.evs.length - (k + 1), by omega, k + 1, rfl, by omega, by rw [hs]; rfl, rfl, by first | omega | (dsimp only; omega)⟩
        rw [c1, c2] at hs
        simp (disch := omega) only [wp, Nat.reduceAdd, Nat.reduceMul, Nat.reduceSub, gl, e1, e2, e5, e6, e7, hg, hk1, hkd, hlc, hdl, c1, c2, hwk, hwc]
        refine ⟨X.evs.length - (k + 1), by omega, k + 1, rfl, by omega, by rw [hs]; rfl, rfl, by first | omega | (dsimp only; omega)⟩
      · obtain rfl : k = X.evs.length := by omega
        have hk1 : ¬ ((X.evs.length : Int) < X.evs.length) := by omega
        simp (disch := omega) only [wp, Nat.reduceAdd, Nat.reduceMul, Nat.reduceSub, gl, e1, e2, e5, e6, e7, hg, hk1]
        first | omega | (dsimp only; omega)
  · rintro e g ⟨e1, e2, e5, e6, hg, hnx⟩
    simp (disch := omega) only [wp, Nat.reduceAdd, Nat.reduceMul, Nat.reduceSub, e1, e2, e5, e6]
    have hcl := cntW_le X loc X.evs.length
    rw [← ok3] at e6
    refine W_loop (fun q e g => ∃ i : Nat, q = l.length - i ∧ i ≤ l.length ∧ e 1 = .i .i64 loc ∧ e 2 = .mp 0 0 ∧ e 5 = .sl (intsC l) l.length .non ∧ e 6 = .i .i64 (l.length : Nat) ∧ e 8 = .i .i64 i ∧ g.hp 0 = some (.cells (grC X) false) ∧ 0 < g.nx) l.length ?_ ?_
    · refine ⟨0, rfl, Nat.zero_le _, ?_⟩
      simp (disch := omega) only [wp, Nat.reduceAdd, Nat.reduceMul, Nat.reduceSub, e1, e2, e5, e6]
      exact ⟨rfl, hg, by first | omega | (dsimp only; omega)⟩
    · rintro q e g ⟨i, rfl, hi, e1, e2, e5, e6, e8, hg, hnx⟩
      by_cases hi' : i < l.length
      · have hi1 : (i : Int) < l.length := by omega
        have hwi := succ_wrap (k := i) (by omega)
        have hip := ints_part hi'
        obtain ⟨b1, b2, c1, c2⟩ := ok1 i hi'
        have hkd := ev_kd_at (l := X.evs) (k := (l.getD i 0).toNat) (by omega)
        have hlc := ev_lc_at (l := X.evs) (k := (l.getD i 0).toNat) (by omega)
        have hdl : (List.drop ((l.getD i 0).toNat * 6) (evsC X.evs)).length = X.evs.length * 6 - (l.getD i 0).toNat * 6 := by rw [List.length_drop, evsC_len]
        have c1 : ((X.evs.getD (l.getD i 0).toNat ev0).kd != 2) = false := by rw [c1]; rfl
        have c2 : ((X.evs.getD (l.getD i 0).toNat ev0).lc != (loc : Int)) = false := by rw [c2, bne_self_eq_false]
        have n1 : ¬ l.getD i 0 < 0 := by omega
        have n2 : ¬ (X.evs.length : Int) ≤ l.getD i 0 := by omega
        simp (disch := omega) only [wp, Nat.reduceAdd, Nat.reduceMul, Nat.reduceSub, gl, e1, e2, e5, e6, e8, hg, hi1, hip, n1, n2, hkd, hlc, hdl, c1, c2]
        refine W_loop (fun q e g => ∃ k : Nat, q = i - k ∧ k ≤ i ∧ e 1 = .i .i64 loc ∧ e 2 = .mp 0 0 ∧ e 5 = .sl (intsC l) l.length .non ∧ e 6 = .i .i64 (l.length : Nat) ∧ e 8 = .i .i64 i ∧ e 9 = .i .i64 k ∧ g.hp 0 = some (.cells (grC X) false) ∧ 0 < g.nx) i ?_ ?_
        · refine ⟨0, rfl, Nat.zero_le _, ?_⟩
          simp (disch := omega) only [wp, Nat.reduceAdd, Nat.reduceMul, Nat.reduceSub, e1, e2, e5, e6, e8]
          exact ⟨rfl, hg, by first | omega | (dsimp only; omega)⟩
        · rintro q e g ⟨k, rfl, hk, e1, e2, e5, e6, e8, e9, hg, hnx⟩
          by_cases hk' : k < i
          · have hk1 : (k : Int) < i := by omega
            have hkl : (k : Int) < l.length := by omega
            have hwk := succ_wrap (k := k) (by omega)
            have hkp := ints_part (l := l) (k := k) (by omega)
            have c3 : (l.getD k 0 == l.getD i 0) = false := by simpa using ok2 i hi' k hk'
            simp (disch := omega) only [wp, Nat.reduceAdd, Nat.reduceMul, Nat.reduceSub, gl, e1, e2, e5, e6, e8, e9, hg, hk1, hkl, hi1, hip, hkp, c3, hwk]
            exact ⟨i - (k + 1), by omega, k + 1, rfl, by omega, rfl, by first | omega | (dsimp only; omega)⟩
          · obtain rfl : k = i := by omega
            have hk1 : ¬ ((k : Int) < k) := by omega
            simp (disch := omega) only [wp, Nat.reduceAdd, Nat.reduceMul, Nat.reduceSub, gl, e1, e2, e5, e6, e8, e9, hg, hk1, hwi]
            exact ⟨l.length - (k + 1), by omega, k + 1, rfl, by omega, rfl, by first | omega | (dsimp only; omega)⟩
      · obtain rfl : i = l.length := by omega
        have hi1 : ¬ ((l.length : Int) < l.length) := by omega
        have hip := ints_part (l := l) (k := 0) ok4
        have c9 : (l.getD 0 0 == (loc : Int)) = true := by simpa using ok5
        rw [Nat.zero_mul, List.drop_zero] at hip
        have hpos : (0 : Int) < l.length := by omega
        simp (disch := omega) only [wp, Nat.reduceAdd, Nat.reduceMul, Nat.reduceSub, gl, e1, e2, e5, e6, e8, hg, hi1, hip, hpos, c9]
set_option maxRecDepth 100000 in
set_option maxHeartbeats 4000000 in
theorem st_check (h45 : F 45 = some A_xref06_Check) (h63 : F 63 = some A_xref06_event) (h64 : F 64 = some A_xref06_rf) (h65 : F 65 = some A_xref06_co) (h66 : F 66 = some A_xref06_rmw) (h67 : F 67 = some A_xref06_deps) (h82 : F 82 = some A_xref06_rising) {X : Gr} (hX : FewG X) (ok : GraphOk X) : pureS F 45 [.agg (grC X)] = some (.b true) := by
  refine pure_of h45 ?_
  obtain ⟨l1, l4, nl, n40, hrl, hcl, hev, hrf, hco, hrm, hda, hct, hci⟩ := ok
  have c5 : ((X.rf.length : Int) != (X.evs.length : Int)) = false := by simp [hrl]
  have c6 : ((X.co.length : Int) != X.locs) = false := by simp [hcl]
  have r1 := st_rmw h66 h82 (X := X) (by omega) (by have := hX.rmw; omega) hrm
  have r2 := st_deps h67 h82 X X.data .non (by have := hX.data; omega) hda
  have r3 := st_deps h67 h82 X X.ctrl .non (by have := hX.ctrl; omega) hct
  have r4 := st_deps h67 h82 X X.ctrli .non (by have := hX.ctrli; omega) hci
  have q1 : ¬ X.locs < 1 := by omega
  have q2 : ¬ 4 < X.locs := by omega
  have q3 : ¬ (X.evs.length : Int) < X.locs := by omega
  have q4 : ¬ 40 < (X.evs.length : Int) := by omega
  simp (disch := omega) only [A_xref06_Check, wp, Nat.reduceAdd, Nat.reduceMul, Nat.reduceSub, gl, q1, q2, q3, q4, c5, c6]
  refine blk_cut (fun e g => e 1 = .mp 0 0 ∧ g.hp 0 = some (.cells (grC X) false) ∧ 0 < g.nx) ?_ ?_
  · refine W_loop (fun q e g => ∃ k : Nat, q = X.evs.length - k ∧ k ≤ X.evs.length ∧ e 1 = .mp 0 0 ∧ e 3 = .i .i64 X.evs.length ∧ e 4 = .i .i64 k ∧ g.hp 0 = some (.cells (grC X) false) ∧ 0 < g.nx) X.evs.length ?_ ?_
    · refine ⟨0, rfl, Nat.zero_le _, ?_⟩
      simp (disch := omega) only [wp, Nat.reduceAdd, Nat.reduceMul, Nat.reduceSub]
      exact ⟨rfl, by first | omega | (dsimp only; omega)⟩
    · rintro q e g ⟨k, rfl, hk, e1, e3, e4, hg, hnx⟩
      by_cases hk' : k < X.evs.length
      · have hk1 : (k : Int) < X.evs.length := by omega
        have hwk := succ_wrap (k := k) (by omega)
        have h1 := st_event h63 hk' (by omega) (by omega) (hev k hk')
        have h2 := st_rf h64 hk' (by omega) (hrf k hk')
        simp (disch := omega) only [wp, Nat.reduceAdd, Nat.reduceMul, Nat.reduceSub, gl, e1, e3, e4, hg, hk1, h1, h2, hwk]
        exact ⟨X.evs.length - (k + 1), by omega, k + 1, rfl, by omega, rfl, by first | omega | (dsimp only; omega)⟩
      · obtain rfl : k = X.evs.length := by omega
        have hk1 : ¬ ((X.evs.length : Int) < X.evs.length) := by omega
        simp (disch := omega) only [wp, Nat.reduceAdd, Nat.reduceMul, Nat.reduceSub, gl, e1, e3, e4, hg, hk1]
        exact (by first | omega | (dsimp only; omega))
  · rintro e g ⟨e1, hg, hnx⟩
    simp (disch := omega) only [wp, Nat.reduceAdd, Nat.reduceMul, Nat.reduceSub, e1]
    refine blk_cut (fun e g => e 1 = .mp 0 0 ∧ g.hp 0 = some (.cells (grC X) false) ∧ 0 < g.nx) ?_ ?_
    · refine W_loop (fun q e g => ∃ k : Nat, q = X.co.length - k ∧ k ≤ X.co.length ∧ e 1 = .mp 0 0 ∧ e 5 = .i .i64 k ∧ g.hp 0 = some (.cells (grC X) false) ∧ 0 < g.nx) X.co.length ?_ ?_
      · refine ⟨0, rfl, Nat.zero_le _, ?_⟩
        simp (disch := omega) only [wp, Nat.reduceAdd, Nat.reduceMul, Nat.reduceSub, e1]
        exact ⟨rfl, hg, by first | omega | (dsimp only; omega)⟩
      · rintro q e g ⟨k, rfl, hk, e1, e5, hg, hnx⟩
        by_cases hk' : k < X.co.length
        · have hk1 : (k : Int) < X.locs := by omega
          have hwk := succ_wrap (k := k) (by omega)
          have h1 := st_co h65 hk' (by have := hX.evs; omega) (by
            have hm : X.co.getD k [] ∈ X.co := by
              rw [List.getD_eq_getElem?_getD, List.getElem?_eq_getElem hk']; exact List.getElem_mem hk'
            have := hX.cos _ hm; omega) (hco k hk')
          simp (disch := omega) only [wp, Nat.reduceAdd, Nat.reduceMul, Nat.reduceSub, gl, e1, e5, hg, hk1, h1, hwk]
          exact ⟨X.co.length - (k + 1), by omega, k + 1, rfl, by omega, rfl, by first | omega | (dsimp only; omega)⟩
        · obtain rfl : k = X.co.length := by omega
          have hk1 : ¬ ((X.co.length : Int) < X.locs) := by omega
          simp (disch := omega) only [wp, Nat.reduceAdd, Nat.reduceMul, Nat.reduceSub, gl, e1, e5, hg, hk1]
          exact (by first | omega | (dsimp only; omega))
    · rintro e g ⟨e1, hg, hnx⟩
      simp (disch := omega) only [wp, Nat.reduceAdd, Nat.reduceMul, Nat.reduceSub, gl, e1, hg, r1, r2, r3, r4]
end Go.Ab
end
section
set_option linter.unusedVariables false
set_option linter.unusedSimpArgs false
namespace Go.Ab
variable {F : Funs}
set_option maxRecDepth 100000 in
set_option maxHeartbeats 1000000 in
theorem sp_mself (h : F 265 = some A_xref01_R_Self) {n : Nat} (hn : n ≤ 40) (T : Mx) : pureS F 265 [.ptr (matC n T)] = some (.b ((List.range n).any fun a => T a a)) := by
  refine pure_of h ?_
  simp (disch := omega) only [A_xref01_R_Self, wp, Nat.reduceAdd, Nat.reduceMul, Nat.reduceSub, ml]
  refine W_loop (fun m e g => ∃ k, m = n - k ∧ k ≤ n ∧ e 0 = .ptr (matC n T) ∧ e 3 = .i .i64 k ∧ ∀ a, a < k → T a a = false) n ?_ ?_
  · refine ⟨0, rfl, Nat.zero_le _, ?_⟩
    simp (disch := omega) only [wp, Nat.reduceAdd, Nat.reduceMul, Nat.reduceSub]
    exact ⟨rfl, fun a ha => absurd ha (Nat.not_lt_zero _)⟩
  · rintro m e g ⟨k, rfl, hk, h3, h4, hall⟩
    by_cases hk' : k < n
    · have hk1 : (k : Int) < n := by omega
      have hw := succ_wrap (k := k) (by omega)
      cases hh : T k k with
      | true =>
        simp (disch := omega) only [wp, Nat.reduceAdd, Nat.reduceMul, Nat.reduceSub, ml, h3, h4, hk1, hw, hh]
        have : (List.range n).any (fun a => T a a) = true := List.any_eq_true.2 ⟨k, List.mem_range.2 hk', hh⟩
        rw [this]
      | false =>
        simp (disch := omega) only [wp, Nat.reduceAdd, Nat.reduceMul, Nat.reduceSub, ml, h3, h4, hk1, hw, hh]
        refine ⟨n - (k + 1), by omega, k + 1, rfl, by omega, rfl, fun a ha => ?_⟩
        by_cases hak : a = k
        · subst hak; exact hh
        · exact hall a (by omega)
    · obtain rfl : k = n := by omega
      have hk1 : ¬ ((k : Int) < k) := by omega
      simp (disch := omega) only [wp, Nat.reduceAdd, Nat.reduceMul, Nat.reduceSub, ml, h3, h4, hk1]
      have : (List.range k).any (fun a => T a a) = false := List.any_eq_false.2 fun a ha => by rw [hall a (List.mem_range.1 ha)]; simp
      rw [this]
theorem any_eqN {n : Nat} {A : Mx} {R : Rw} (h : EqN n A R) : ((List.range n).any fun a => A a a) = (List.range n).any fun a => has n R (a : Nat) (a : Nat) := by
  rw [Bool.eq_iff_iff, List.any_eq_true, List.any_eq_true]
  constructor
  · rintro ⟨a, ha, h1⟩
    have ha' := List.mem_range.1 ha
    refine ⟨a, ha, ?_⟩
    rw [h.2 a a ha' ha'] at h1
    unfold has
    rw [Bool.and_eq_true]
    exact ⟨decide_eq_true ⟨by omega, by omega, by omega, by omega⟩, h1⟩
  · rintro ⟨a, ha, h1⟩
    have ha' := List.mem_range.1 ha
    refine ⟨a, ha, ?_⟩
    rw [h.2 a a ha' ha']
    unfold has at h1
    rw [Bool.and_eq_true] at h1
    exact h1.2
structure Ref12F (F : Funs) : Prop where
  r : RefF F
  p : Pk_xref11 F
  p10 : Pk_xref10 F
  p12 : Pk_xref12 F
  h83 : F 83 = some A_xref09_Com
  h72 : F 72 = some A_xref09_Eco
  hs : F 265 = some A_xref01_R_Self
  hlo : F 37 = some A_xref01_R_Loops
theorem has_orR {n : Nat} {R S : Rw} {a b : Int} : has n (orR R S) a b = (has n R a b || has n S a b) := by
  unfold has
  have := hb_or (R := R) (S := S) (a := a.toNat) (b := b.toNat)
  unfold hb at this
  rw [this]
  cases decide (0 ≤ a ∧ a < n ∧ 0 ≤ b ∧ b < n) <;> simp
section
variable (S : Ref12F F) {X : Gr} (hX : FewG X) (h : GraphOk X)
include S hX h
set_option maxRecDepth 100000 in
theorem m12_coh : pureS F 261 [.agg (grC X)] = some (.b (cohB X)) := by
  refine pure_of S.p12.xref12_Coherent ?_
  obtain ⟨l1, l2, l3⟩ := FewG.l1 hX
  obtain ⟨A, hA, eA⟩ := mHb S.r S.p10 h l3
  have he := sp_mEco S.h72 S.r.px.xref01_New S.r.px.xref01_R_Plus h.n40 (sp_mCom S.h83 S.r.px.xref01_New S.r.px.xref01_R_Or h.n40 (S.r.rf h) (S.r.co hX h) (S.r.fr hX h))
  have e2 := eA.then (eq_eco h)
  have a1 := any_eqN eA
  have a2 := any_eqN e2
  have s1 := sp_mself S.hs h.n40 A
  have s2 := sp_mself S.hs h.n40 (thM A (plM X.evs.length (comM X.evs.length (anyM (rfL X X.rf.length)) (anyM (coX X X.co.length))) X.evs.length) X.evs.length X.evs.length)
  rw [a1] at s1
  rw [a2] at s2
  have hR : cohB X = (!((List.range X.evs.length).any fun a => has X.evs.length (HbP X) (a : Nat) (a : Nat)) && !((List.range X.evs.length).any fun a => has X.evs.length (thenR X.evs.length (HbP X) (ecoR X)) (a : Nat) (a : Nat))) := by
    unfold cohB cohR allN
    rw [h.nOf, Bool.eq_iff_iff]
    simp only [List.all_eq_true, Bool.and_eq_true, Bool.not_eq_true', List.any_eq_false, has_orR, Bool.or_eq_false_iff, Bool.not_eq_true]
    exact ⟨fun hh => ⟨fun a ha => (hh a ha).1, fun a ha => (hh a ha).2⟩, fun hh a ha => ⟨hh.1 a ha, hh.2 a ha⟩⟩
  generalize cohB X = R at hR
  generalize ((List.range X.evs.length).any fun a => has X.evs.length (HbP X) (a : Nat) (a : Nat)) = b1 at s1 hR
  generalize ((List.range X.evs.length).any fun a => has X.evs.length (thenR X.evs.length (HbP X) (ecoR X)) (a : Nat) (a : Nat)) = b2 at s2 hR
  subst hR
  cases b1
  · simp (disch := omega) only [A_xref12_Coherent, wp, Nat.reduceAdd, Nat.reduceMul, Nat.reduceSub, gl, hA, he, S.r.then h, s1, s2]
  · simp (disch := omega) only [A_xref12_Coherent, wp, Nat.reduceAdd, Nat.reduceMul, Nat.reduceSub, gl, hA, he, S.r.then h, s1, s2]
set_option maxRecDepth 100000 in
theorem m12_at : pureS F 262 [.agg (grC X)] = some (.b (atB X)) := by
  refine pure_of S.p12.xref12_Atomic ?_
  obtain ⟨l1, l2, l3⟩ := FewG.l1 hX
  have e1 := (EqN.new h.n40 X.rmw).and ((eq_outer h (eq_fr h)).then (eq_outer h (eq_co h)))
  have hp := sp_mpairs S.r.px.xref01_R_Pairs h.n40 _ (atR X) (same_of (by
    unfold atR
    rw [h.nOf]
    exact e1.2))
  unfold atB
  rw [h.nOf]
  simp (disch := omega) only [A_xref12_Atomic, wp, Nat.reduceAdd, Nat.reduceMul, Nat.reduceSub, gl, S.r.fr hX h, S.r.co hX h, S.r.outer h, S.r.ofL h, S.r.then h, S.r.and h, hp]
set_option maxRecDepth 100000 in
theorem m12_ord : pureS F 263 [.agg (grC X)] = some (.b (ordB X)) := by
  refine pure_of S.p12.xref12_Ordered ?_
  obtain ⟨A, hA, eA⟩ := m11_ar S.r S.p S.p10 hX h S.h83 S.h72
  have hl := sp_mloops S.hlo S.r.px.xref01_R_Plus S.r.px.xref01_New h.n40 A
  rw [any_eqN eA.plus] at hl
  have hR : ordB X = !((List.range X.evs.length).any fun a => has X.evs.length (plusR X.evs.length (arR X)) (a : Nat) (a : Nat)) := by
    unfold ordB loopsR
    rw [h.nOf]
  rw [hR]
  simp (disch := omega) only [A_xref12_Ordered, wp, Nat.reduceAdd, Nat.reduceMul, Nat.reduceSub, gl, hA, hl]
set_option maxRecDepth 100000 in
theorem m12_con : pureS F 264 [.agg (grC X)] = some (.b (conB X)) := by
  refine pure_of S.p12.xref12_Consistent ?_
  have hc := st_check S.r.p6.xref06_Check S.r.p6.xref06_event S.r.p6.xref06_rf S.r.p6.xref06_co S.r.p6.xref06_rmw S.r.p6.xref06_deps S.r.p6.xref06_rising hX h
  have h1 := m12_coh S hX h
  have h2 := m12_at S hX h
  have h3 := m12_ord S hX h
  have hR : conB X = (cohB X && (atB X && ordB X)) := by
    unfold conB
    rw [gCheck_iff.2 h, Bool.true_and]
  generalize conB X = R at hR
  generalize cohB X = b1 at h1 hR
  generalize atB X = b2 at h2 hR
  generalize ordB X = b3 at h3 hR
  subst hR
  cases b1
  · simp (disch := omega) only [A_xref12_Consistent, wp, Nat.reduceAdd, Nat.reduceMul, Nat.reduceSub, gl, hc, h1, h2, h3]
  cases b2
  · simp (disch := omega) only [A_xref12_Consistent, wp, Nat.reduceAdd, Nat.reduceMul, Nat.reduceSub, gl, hc, h1, h2, h3]
  simp (disch := omega) only [A_xref12_Consistent, wp, Nat.reduceAdd, Nat.reduceMul, Nat.reduceSub, gl, hc, h1, h2, h3]
end
end Go.Ab
end
section
set_option linter.unusedVariables false
set_option linter.unusedSimpArgs false
namespace Go.Ab
open Go.RowKit
section
variable {H : Type} {enc : TypeId × Value → H} {P : Program} {c : Cx}
theorem read_agg (hb : c.base = c.w.heap.size) (hJ : c.J = fun _ => True) (m : Nat) {t : TypeId} {cs : Array Value} {d : DataW H} {ps : List MemPlace} (hp : plainB P m t = true) (h : DataW.Trod enc P c.w 0 (fun _ => true) true t (.agg cs) d ps) :
    ∃ asx, Sh P m t asx ∧ Rep c true (.agg asx) (.agg cs) := by
  obtain ⟨fuel, hf⟩ := h
  obtain ⟨asx, h1, h2, _⟩ := read_cells hb hJ m hp hf
  refine ⟨asx, h1, ?_⟩
  have := Rep.agg (c := c) (m := true) (cs := asx) cs.toList h2.1 fun j x v hx hv => (h2.2 j x v hx hv).up
  rwa [Array.toArray_toList] at this
end
theorem sh_int {P : Program} {m : Nat} {t : TypeId} {asx : List AV} (ht : P.underlying t = some (.int .i64)) (h : Sh P (m + 1) t asx) : ∃ n, asx = [.i .i64 n] := by
  simp only [Sh, ht] at h
  obtain ⟨n, h, _⟩ := h
  exact ⟨n, h⟩
theorem sh_bool {P : Program} {m : Nat} {t : TypeId} {asx : List AV} (ht : P.underlying t = some .bool) (h : Sh P (m + 1) t asx) : ∃ b, asx = [.b b] := by
  simp only [Sh, ht] at h; exact h
theorem sh_slice {P : Program} {m : Nat} {t e : TypeId} {asx : List AV} {α : Type} {f : α → List AV} (ht : P.underlying t = some (.slice e)) (he : ∀ r, Sh P m e r → ∃ p, r = f p) (h : Sh P (m + 1) t asx) : ∃ l : List α, asx = [.sl (l.flatMap f) l.length .non] ∧ l.length ≤ maxLen := by
  simp only [Sh, ht] at h
  obtain ⟨cs, n, rfl, hn, rows, hl, rfl, hS⟩ := h
  have key : ∀ rows : List (List AV), (∀ r ∈ rows, Sh P m e r) → ∃ l : List α, rows.flatten = l.flatMap f ∧ l.length = rows.length := by
    intro rows
    induction rows with
    | nil => intro _; exact ⟨[], rfl, rfl⟩
    | cons r rows ih =>
      intro h
      obtain ⟨p, rfl⟩ := he r (h r (List.mem_cons_self ..))
      obtain ⟨l, h1, h2⟩ := ih fun r hr => h r (List.mem_cons_of_mem _ hr)
      exact ⟨p :: l, by rw [List.flatten_cons, h1]; rfl, by simp [h2]⟩
  obtain ⟨l, h1, h2⟩ := key rows hS
  exact ⟨l, by rw [h1, ← hl, h2], by omega⟩
theorem sh_struct {P : Program} {m : Nat} {t : TypeId} {fs : Array Field} {asx : List AV} {ts : List TypeId} (ht : P.underlying t = some (.struct fs)) (hf : fs.toList.map (·.type) = ts) (h : Sh P (m + 1) t asx) : ShL (Sh P m) ts asx := by
  simp only [Sh, ht, hf] at h; exact h
theorem intsC_flat (l : List Int) : l.flatMap (fun v => [AV.i .i64 v]) = intsC l := by
  induction l with
  | nil => rfl
  | cons a l ih => rw [List.flatMap_cons, ih]; rfl
theorem coC_flat (l : List (List Int)) : l.flatMap (fun c => [AV.sl (intsC c) c.length .non]) = coC l := by
  induction l with
  | nil => rfl
  | cons a l ih => rw [List.flatMap_cons, ih]; rfl
section
variable {P : Program} {i b e g sE sI sC sP p : TypeId} {fe fg fp : Array Field}
theorem sh_intsG {m : Nat} (hi : P.underlying i = some (.int .i64)) (hI : P.underlying sI = some (.slice i)) {asx : List AV} (h : Sh P (m + 2) sI asx) : ∃ l : List Int, asx = [.sl (intsC l) l.length .non] ∧ l.length ≤ maxLen := by
  obtain ⟨l, h1, h2⟩ := sh_slice (f := fun v => [AV.i .i64 v]) hI (fun r hr => sh_int hi hr) h
  exact ⟨l, by rw [h1, intsC_flat], h2⟩
theorem sh_pairsG {m : Nat} (hi : P.underlying i = some (.int .i64)) (hp : P.underlying p = some (.struct fp)) (hfp : fp.toList.map (·.type) = [i, i]) (hP : P.underlying sP = some (.slice p)) {asx : List AV} (h : Sh P (m + 3) sP asx) : ∃ l : List (Int × Int), asx = [.sl (pairsC l) l.length .non] ∧ l.length ≤ maxLen := by
  obtain ⟨l, h1, h2⟩ := sh_slice (f := fun q : Int × Int => [AV.i .i64 q.1, .i .i64 q.2]) hP (fun r hr => by
    obtain ⟨a1, r1, rfl, s1, a2, r2, rfl, s2, rfl⟩ := sh_struct hp hfp hr
    obtain ⟨x, rfl⟩ := sh_int hi s1
    obtain ⟨y, rfl⟩ := sh_int hi s2
    exact ⟨(x, y), rfl⟩) h
  exact ⟨l, h1, h2⟩
theorem sh_evsG {m : Nat} (hi : P.underlying i = some (.int .i64)) (hb : P.underlying b = some .bool) (he : P.underlying e = some (.struct fe)) (hfe : fe.toList.map (·.type) = [i, i, i, i, i, b]) (hE : P.underlying sE = some (.slice e)) {asx : List AV} (h : Sh P (m + 3) sE asx) : ∃ l : List Ev, asx = [.sl (evsC l) l.length .non] ∧ l.length ≤ maxLen := by
  obtain ⟨l, h1, h2⟩ := sh_slice (f := evC) hE (fun r hr => by
    obtain ⟨a1, r1, rfl, s1, a2, r2, rfl, s2, a3, r3, rfl, s3, a4, r4, rfl, s4, a5, r5, rfl, s5, a6, r6, rfl, s6, rfl⟩ := sh_struct he hfe hr
    obtain ⟨x1, rfl⟩ := sh_int hi s1
    obtain ⟨x2, rfl⟩ := sh_int hi s2
    obtain ⟨x3, rfl⟩ := sh_int hi s3
    obtain ⟨x4, rfl⟩ := sh_int hi s4
    obtain ⟨x5, rfl⟩ := sh_int hi s5
    obtain ⟨x6, rfl⟩ := sh_bool hb s6
    exact ⟨⟨x1, x2, x3, x4, x5, x6⟩, rfl⟩) h
  exact ⟨l, h1, h2⟩
theorem sh_gr (hi : P.underlying i = some (.int .i64)) (hb : P.underlying b = some .bool) (he : P.underlying e = some (.struct fe)) (hfe : fe.toList.map (·.type) = [i, i, i, i, i, b]) (hE : P.underlying sE = some (.slice e)) (hI : P.underlying sI = some (.slice i)) (hC : P.underlying sC = some (.slice sI))
    (hp : P.underlying p = some (.struct fp)) (hfp : fp.toList.map (·.type) = [i, i]) (hP : P.underlying sP = some (.slice p)) (hg : P.underlying g = some (.struct fg)) (hfg : fg.toList.map (·.type) = [i, sE, sI, sC, sP, sP, sP, sP]) {asx : List AV} (h : Sh P 4 g asx) : ∃ X : Gr, asx = grC X := by
  obtain ⟨a1, r1, rfl, s1, a2, r2, rfl, s2, a3, r3, rfl, s3, a4, r4, rfl, s4, a5, r5, rfl, s5, a6, r6, rfl, s6, a7, r7, rfl, s7, a8, r8, rfl, s8, rfl⟩ := sh_struct hg hfg h
  obtain ⟨x1, rfl⟩ := sh_int hi s1
  obtain ⟨x2, rfl, _⟩ := sh_evsG (m := 0) hi hb he hfe hE s2
  obtain ⟨x3, rfl, _⟩ := sh_intsG (m := 1) hi hI s3
  obtain ⟨x4, rfl, _⟩ := sh_slice (f := fun c : List Int => [AV.sl (intsC c) c.length .non]) hC (fun r hr => by
    obtain ⟨l, h1, _⟩ := sh_intsG (m := 0) hi hI hr
    exact ⟨l, h1⟩) s4
  obtain ⟨x5, rfl, _⟩ := sh_pairsG (m := 0) hi hp hfp hP s5
  obtain ⟨x6, rfl, _⟩ := sh_pairsG (m := 0) hi hp hfp hP s6
  obtain ⟨x7, rfl, _⟩ := sh_pairsG (m := 0) hi hp hfp hP s7
  obtain ⟨x8, rfl, _⟩ := sh_pairsG (m := 0) hi hp hfp hP s8
  exact ⟨⟨x1, x2, x3, x4, x5, x6, x7, x8⟩, by rw [coC_flat]; rfl⟩
end
end Go.Ab
end
section
set_option linter.unusedVariables false
set_option linter.unusedSimpArgs false
namespace Go.Ab
variable {F : Funs}
theorem splice_s (a : AV) (cs : List AV) (k : Nat) (v w : AV) (vs : List AV) : splice (a :: cs) (k + 1) (v :: w :: vs) = a :: splice cs k (v :: w :: vs) := by
  simp only [splice, List.take_succ_cons, List.cons_append, List.length_cons]
  rw [show k + 1 + (vs.length + 1 + 1) = (k + (vs.length + 1 + 1)) + 1 by omega, List.drop_succ_cons]
theorem splice_6 (b1 b2 b3 b4 b5 b6 c1 c2 c3 c4 c5 c6 : AV) (cs : List AV) : splice (b1 :: b2 :: b3 :: b4 :: b5 :: b6 :: cs) 0 [c1, c2, c3, c4, c5, c6] = c1 :: c2 :: c3 :: c4 :: c5 :: c6 :: cs := rfl
end Go.Ab
end
section
set_option linter.unusedVariables false
set_option linter.unusedSimpArgs false
namespace Go.Ab
variable {F : Funs}
def loopG (b : Bool) : Gr := ⟨2, [⟨0, 2, 0, 0, 0, false⟩, ⟨0, 2, 0, 1, 0, false⟩, ⟨1, 1, 0, 0, 1, false⟩, ⟨1, 2, 0, 1, 1, false⟩, ⟨2, 1, 0, 1, 1, false⟩, ⟨2, 2, 0, 0, 1, false⟩], [-1, -1, 5, -1, 3, -1], [[0, 5], [1, 3]], [], if b then [(2, 3), (4, 5)] else [], [], []⟩
def nilG : Gr := ⟨0, [], [], [], [], [], [], []⟩
set_option maxRecDepth 100000 in
set_option maxHeartbeats 4000000 in
theorem si_loop (h218 : F 218 = some A_xlaw12_loop) (b : Bool) : pureS F 218 [.b b] = some (.agg (grC (loopG b))) := by
  refine pure_of h218 ?_
  have r5 : ∀ x : AV, List.replicate 5 x = [x, x, x, x, x] := fun _ => rfl
  have r6 : ∀ x : AV, List.replicate 6 x = [x, x, x, x, x, x] := fun _ => rfl
  have r4 : ∀ x : AV, List.replicate 4 x = [x, x, x, x] := fun _ => rfl
  have r7 : ∀ x : AV, List.replicate 7 x = [x, x, x, x, x, x, x] := fun _ => rfl
  have s8 : ∀ a1 a2 a3 a4 a5 a6 a7 a8 c1 c2 c3 c4 c5 c6 c7 c8 : AV, splice [a1, a2, a3, a4, a5, a6, a7, a8] 0 [c1, c2, c3, c4, c5, c6, c7, c8] = [c1, c2, c3, c4, c5, c6, c7, c8] := fun _ _ _ _ _ _ _ _ _ _ _ _ _ _ _ _ => rfl
  have p8 : ∀ a1 a2 a3 a4 a5 a6 a7 a8 : AV, part [a1, a2, a3, a4, a5, a6, a7, a8] 0 (some 8) = some (.agg [a1, a2, a3, a4, a5, a6, a7, a8]) := fun _ _ _ _ _ _ _ _ => rfl
  have s4a : ∀ a b c d x y : AV, splice [a, b, c, d] 0 [x, y] = [x, y, c, d] := fun _ _ _ _ _ _ => rfl
  have s4b : ∀ a b c d x y : AV, splice [a, b, c, d] 2 [x, y] = [a, b, x, y] := fun _ _ _ _ _ _ => rfl
  cases b
  · simp (disch := omega) only [A_xlaw12_loop, wp, Nat.reduceAdd, Nat.reduceMul, Nat.reduceSub, gl, res_cell, resC, r5, r6, r4, r7, s8, p8, s4a, s4b, splice_s, splice_6, List.length_set]
    refine frz_d_agg ?_
    show frzL _ (7 + 1) _ = _
    simp only [frzL, frz]
    rfl
  · simp (disch := omega) only [A_xlaw12_loop, wp, Nat.reduceAdd, Nat.reduceMul, Nat.reduceSub, gl, res_cell, resC, r5, r6, r4, r7, s8, p8, s4a, s4b, splice_s, splice_6, List.length_set]
    refine frz_d_agg ?_
    show frzL _ (7 + 1) _ = _
    simp only [frzL, frz]
    rfl
theorem loop_few (b : Bool) : Few (loopG b) := by
  refine ⟨by simp [loopG], by simp [loopG], ?_⟩
  intro c hc
  simp only [loopG, List.mem_cons, List.not_mem_nil, or_false] at hc
  rcases hc with rfl | rfl <;> decide
theorem nil_few : Few nilG := ⟨by simp [nilG], by simp [nilG], fun c hc => by cases hc⟩
theorem loop_len (b : Bool) : LenG (loopG b) := by
  refine ⟨by cases b <;> decide, by cases b <;> decide, fun k => ?_, by cases b <;> decide, by cases b <;> decide, by cases b <;> decide, by cases b <;> decide⟩
  match k with
  | 0 => cases b <;> decide
  | 1 => cases b <;> decide
  | k + 2 => show (List.getD [] k []).length ≤ 1000; simp
theorem nil_len : LenG nilG := ⟨by decide, by decide, fun k => by simp [nilG], by decide, by decide, by decide, by decide⟩
theorem loop_1 : ordB (loopG true) = false := by decide +kernel
theorem loop_2 : ordB (loopG false) = true := by decide +kernel
theorem loop_3 : conB (loopG false) = true := by decide +kernel
theorem loop_4 : cohB (loopG true) = true := by decide +kernel
theorem loop_5 : atB (loopG true) = true := by decide +kernel
theorem nil_1 : conB nilG = false := by decide +kernel
set_option maxRecDepth 100000 in
set_option maxHeartbeats 4000000 in
theorem si_awake (h163 : F 163 = some A_xlaw12_awake) (h218 : F 218 = some A_xlaw12_loop) (S : ImmF F) : pureS F 163 [] = some (.b true) := by
  refine pure_of h163 ?_
  have a0 := si_loop h218 true
  have a1 := si_loop h218 false
  have b1 := si_Ord S (loop_few true) (loop_len true)
  have b2 := si_Ord S (loop_few false) (loop_len false)
  have b3 := si_con S (loop_few false) (loop_len false)
  have b4 := si_Coh S (loop_few true) (loop_len true)
  have b5 := si_At S (loop_few true) (loop_len true)
  have b6 := si_con S nil_few nil_len
  rw [loop_1] at b1
  rw [loop_2] at b2
  rw [loop_3] at b3
  rw [loop_4] at b4
  rw [loop_5] at b5
  rw [nil_1] at b6
  have fz : ∀ hp : Nat → Option Blk, frz hp depth (.agg (AV.i .i64 0 :: List.replicate 7 (AV.sl [] 0 .rig))) = some (.agg (grC nilG)) := fun hp => by
    refine frz_d_agg ?_
    show frzL hp (7 + 1) [.i .i64 0, .sl [] 0 .rig, .sl [] 0 .rig, .sl [] 0 .rig, .sl [] 0 .rig, .sl [] 0 .rig, .sl [] 0 .rig, .sl [] 0 .rig] = _
    simp only [frzL, frz]
    rfl
  have vz : ∀ hp : Nat → Option Blk, vis hp depth (.agg (AV.i .i64 0 :: List.replicate 7 (AV.sl [] 0 .rig))) = [] := fun hp => rfl
  simp (disch := omega) only [A_xlaw12_awake, wp, Nat.reduceAdd, Nat.reduceMul, Nat.reduceSub, gl, a0, a1, b1, b2, b3, b4, b5, b6, fz, vz]
set_option maxRecDepth 100000 in
set_option maxHeartbeats 4000000 in
theorem si_all (h253 : F 253 = some A_xlaw12_all) (S : ImmF F) (T : Ref12F F) {X : Gr} (hX : FewG X) (h : GraphOk X) : pureS F 253 [.agg (grC X)] = some (.b true) := by
  refine pure_of h253 ?_
  have hf := hX.few
  have hl := hX.len
  have a1 := si_Coh S hf hl
  have a2 := si_At S hf hl
  have a3 := si_Ord S hf hl
  have a4 := si_con S hf hl
  have b1 := m12_coh T hX h
  have b2 := m12_at T hX h
  have b3 := m12_ord T hX h
  have b4 := m12_con T hX h
  generalize cohB X = c1 at a1 b1
  generalize atB X = c2 at a2 b2
  generalize ordB X = c3 at a3 b3
  generalize conB X = c4 at a4 b4
  simp (disch := omega) only [A_xlaw12_all, wp, Nat.reduceAdd, Nat.reduceMul, Nat.reduceSub, gl, a1, a2, a3, a4, b1, b2, b3, b4]
set_option maxRecDepth 100000 in
set_option maxHeartbeats 4000000 in
theorem si_immAny {f : Nat} (hf : F f = some A_xlaw12_ImmAny) (h44 : F 44 = some A_xlaw00_FewGraph) (h163 : F 163 = some A_xlaw12_awake) (h218 : F 218 = some A_xlaw12_loop) (h253 : F 253 = some A_xlaw12_all) (S : ImmF F) (T : Ref12F F) (X : Gr) : pureS F f [.agg (grC X)] = some (.b true) := by
  refine pure_of hf ?_
  have aw := si_awake h163 h218 S
  obtain ⟨b1, e1, p1⟩ := sp_fewGraph h44 X
  cases b1
  case false => simp (disch := omega) only [A_xlaw12_ImmAny, wp, Nat.reduceAdd, Nat.reduceMul, Nat.reduceSub, gl, e1, aw]
  have hX := p1 rfl
  by_cases hl : (20 : Int) < X.evs.length
  case pos => simp (disch := omega) only [A_xlaw12_ImmAny, wp, Nat.reduceAdd, Nat.reduceMul, Nat.reduceSub, gl, e1, aw, hl]
  obtain ⟨b2, e2, p2⟩ := sp_check T.r.p6.xref06_Check T.r.p6.xref06_event T.r.p6.xref06_rf T.r.p6.xref06_co T.r.p6.xref06_rmw T.r.p6.xref06_deps T.r.p6.xref06_rising hX
  cases b2
  case false =>
    have hc := si_con S hX.few hX.len
    have hg : gCheck X = false := by
      cases hg : gCheck X with
      | false => rfl
      | true =>
        have := st_check T.r.p6.xref06_Check T.r.p6.xref06_event T.r.p6.xref06_rf T.r.p6.xref06_co T.r.p6.xref06_rmw T.r.p6.xref06_deps T.r.p6.xref06_rising hX (gCheck_iff.1 hg)
        rw [e2] at this
        cases this
    have h0 : conB X = false := by unfold conB; rw [hg, Bool.false_and]
    rw [h0] at hc
    simp (disch := omega) only [A_xlaw12_ImmAny, wp, Nat.reduceAdd, Nat.reduceMul, Nat.reduceSub, gl, e1, aw, hl, e2, hc]
  have h := p2 rfl
  have ha := si_all h253 S T hX h
  simp (disch := omega) only [A_xlaw12_ImmAny, wp, Nat.reduceAdd, Nat.reduceMul, Nat.reduceSub, gl, e1, aw, hl, e2, ha]
end Go.Ab
end
