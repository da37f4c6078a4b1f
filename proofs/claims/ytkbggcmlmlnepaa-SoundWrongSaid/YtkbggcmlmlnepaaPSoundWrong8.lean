/- What SoundWrong rests on, part 8: lemmas, no claim of its own. -/
import Derived.Test.YtkbggcmlmlnepaaPSoundWrong7
section
set_option linter.unusedVariables false
set_option linter.unusedSimpArgs false
set_option maxRecDepth 100000
namespace Go.Proofs.Ytkbggcmlmlnepaa
open Go.Ab
set_option maxHeartbeats 8000000 in
theorem swCase15 (how v k0 : Int) (h0 : 0 ≤ k0) (h1 : k0 < 1000) (hp1 : pureS funs 10 [.i .i64 v, .i .i64 1000] = some (.i .i64 k0)) (hp2 : pureS funs 10 [.i .i64 how, .i .i64 18] = some (.i .i64 15)) :
    W funs A_xlaw04_SoundWrong.body (argEnv [.i .i64 how, .i .i64 v]) g0 (retQ A_xlaw04_SoundWrong.res (.b true)) := by
  have r5 : ∀ x : AV, List.replicate 5 x = [x, x, x, x, x] := fun _ => rfl
  have r4 : ∀ x : AV, List.replicate 4 x = [x, x, x, x] := fun _ => rfl
  have r6 : ∀ x : AV, List.replicate 6 x = [x, x, x, x, x, x] := fun _ => rfl
  have hI : pureS funs 282 [.agg [.i .i64 6, .i .i64 0, .i .i64 0, .i .i64 0, .i .i64 0, .sl [.i .i64 1, .i .i64 1] 1 .non, .i .i64 (2 + (1 + k0))], .i .i64 2, .i .i64 2] = some (.b false) := swI15 (1 + k0) (by omega)
  have hB := swBig (6 + (1 + k0)) (by omega)
  have hC := swCheck 6 0 0 0 0 [.i .i64 1, .i .i64 1] 1 (2 + (1 + k0)) hI
  simp only [swIn, swG2, List.cons_append, List.nil_append] at hC
  have hG := swGood5
  have hA := sw_awake
  have hq : abin .quo (.i .i64 15) (.i .i64 3) = some (.i .i64 5) := rfl
  have hi0 : (0 : Int) ≤ 5 := by omega
  have hi1 : (5 : Int) < 6 := by omega
  have hi2 : (5 : Int) < ((6 : Nat) : Int) := by omega
  have hi3 : (5 : Int).toNat = 5 := rfl
  have hj3 : (2 : Int).toNat = 2 := rfl
  have pg : Go.Ab.part ([.i .i64 1, .i .i64 1, .i .i64 0, .i .i64 7, .i .i64 1, .sl [] 0 .rig, .i .i64 0] ++ [.i .i64 2, .i .i64 2, .i .i64 0, .i .i64 0, .i .i64 1, .sl [.i .i64 1, .i .i64 1] 1 .rig, .i .i64 0] ++ [.i .i64 3, .i .i64 4, .i .i64 0, .i .i64 0, .i .i64 0, .sl [] 0 .rig, .i .i64 0] ++ [.i .i64 4, .i .i64 1, .i .i64 2, .i .i64 1, .i .i64 1, .sl [.i .i64 1, .i .i64 1] 1 .rig, .i .i64 0] ++ [.i .i64 5, .i .i64 0, .i .i64 0, .i .i64 1, .i .i64 0, .sl [.i .i64 1, .i .i64 1] 1 .rig, .i .i64 0] ++ [.i .i64 6, .i .i64 0, .i .i64 0, .i .i64 0, .i .i64 0, .sl [.i .i64 1, .i .i64 1] 1 .rig, .i .i64 2]) 35 (some 7) = some (.agg [.i .i64 6, .i .i64 0, .i .i64 0, .i .i64 0, .i .i64 0, .sl [.i .i64 1, .i .i64 1] 1 .rig, .i .i64 2]) := rfl
  have p2 : Go.Ab.part ([.i .i64 1, .i .i64 1, .i .i64 0, .i .i64 7, .i .i64 1, .sl [] 0 .rig, .i .i64 0] ++ [.i .i64 2, .i .i64 2, .i .i64 0, .i .i64 0, .i .i64 1, .sl [.i .i64 1, .i .i64 1] 1 .rig, .i .i64 0] ++ [.i .i64 3, .i .i64 4, .i .i64 0, .i .i64 0, .i .i64 0, .sl [] 0 .rig, .i .i64 0] ++ [.i .i64 4, .i .i64 1, .i .i64 2, .i .i64 1, .i .i64 1, .sl [.i .i64 1, .i .i64 1] 1 .rig, .i .i64 0] ++ [.i .i64 5, .i .i64 0, .i .i64 0, .i .i64 1, .i .i64 0, .sl [.i .i64 1, .i .i64 1] 1 .rig, .i .i64 0] ++ [.i .i64 6, .i .i64 0, .i .i64 0, .i .i64 0, .i .i64 0, .sl [.i .i64 1, .i .i64 1] 1 .rig, .i .i64 2]) 14 (some 7) = some (.agg [.i .i64 3, .i .i64 4, .i .i64 0, .i .i64 0, .i .i64 0, .sl [] 0 .rig, .i .i64 0]) := rfl
  simp only [List.cons_append, List.nil_append] at pg p2
  have p7 : ∀ a b c d e f x : AV, Go.Ab.part [a, b, c, d, e, f, x] 0 (some 7) = some (.agg [a, b, c, d, e, f, x]) := fun _ _ _ _ _ _ _ => rfl
  have fz7 : ∀ (hp : Nat → Option Blk) (a b c d e f : Int) (cs : List AV) (n : Nat) (t : Tok), frz hp depth (.agg [.i .i64 a, .i .i64 b, .i .i64 c, .i .i64 d, .i .i64 e, .sl cs n t, .i .i64 f]) = some (.agg [.i .i64 a, .i .i64 b, .i .i64 c, .i .i64 d, .i .i64 e, .sl cs n .non, .i .i64 f]) := by
    intro hp a b c d e f cs n t
    refine frz_d_agg ?_
    show frzL _ (7 + 1) _ = _
    simp only [frzL, frz]
  have fz2 : ∀ (hp : Nat → Option Blk) (a : Int) (cs : List AV) (n : Nat) (t : Tok), frz hp depth (.agg [.i .i64 a, .sl cs n t]) = some (.agg [.i .i64 a, .sl cs n .non]) := by
    intro hp a cs n t
    refine frz_d_agg ?_
    show frzL _ (7 + 1) _ = _
    simp only [frzL, frz]
  have wB : IntKind.i64.wrap (1 + k0) = 1 + k0 := wrap_id (by omega) (by omega)
  have w6 : IntKind.i64.wrap (6 + (1 + k0)) = 6 + (1 + k0) := wrap_id (by omega) (by omega)
  have be0 : ((15 : Int) == 0) = false := rfl
  have be1 : ((15 : Int) == 1) = false := rfl
  have be2 : ((15 : Int) == 2) = false := rfl
  have be3 : ((15 : Int) == 3) = false := rfl
  have be4 : ((15 : Int) == 4) = false := rfl
  have be5 : ((15 : Int) == 5) = false := rfl
  have be6 : ((15 : Int) == 6) = false := rfl
  have be7 : ((15 : Int) == 7) = false := rfl
  have be8 : ((15 : Int) == 8) = false := rfl
  have be9 : ((15 : Int) == 9) = false := rfl
  have be10 : ((15 : Int) == 10) = false := rfl
  have be11 : ((15 : Int) == 11) = false := rfl
  have be12 : ((15 : Int) == 12) = false := rfl
  have be13 : ((15 : Int) == 13) = false := rfl
  have be14 : ((15 : Int) == 14) = false := rfl
  have be15 : ((15 : Int) == 15) = true := rfl
  have be16 : ((15 : Int) == 16) = false := rfl
  have wX : IntKind.i64.wrap (2 + (1 + k0)) = 2 + (1 + k0) := wrap_id (by omega) (by omega)
  simp (disch := omega) only [A_xlaw04_SoundWrong, wp, Nat.reduceAdd, Nat.reduceMul, Nat.reduceSub, gl, hp1, hp2, r4, r5, r6, hI, hB, hC, hG, hA, hq, hi0, hi1, hi2, hi3, hj3, be0, be1, be2, be3, be4, be5, be6, be7, be8, be9, be10, be11, be12, be13, be14, be15, be16, fz7, fz2, pg, p2, p7, wB, w6, wX, splice, List.take_succ_cons, List.take_zero, List.drop_succ_cons, List.drop_zero]
set_option maxHeartbeats 8000000 in
theorem swCase16 (how v k0 : Int) (h0 : 0 ≤ k0) (h1 : k0 < 1000) (hp1 : pureS funs 10 [.i .i64 v, .i .i64 1000] = some (.i .i64 k0)) (hp2 : pureS funs 10 [.i .i64 how, .i .i64 18] = some (.i .i64 16)) :
    W funs A_xlaw04_SoundWrong.body (argEnv [.i .i64 how, .i .i64 v]) g0 (retQ A_xlaw04_SoundWrong.res (.b true)) := by
  have r5 : ∀ x : AV, List.replicate 5 x = [x, x, x, x, x] := fun _ => rfl
  have r4 : ∀ x : AV, List.replicate 4 x = [x, x, x, x] := fun _ => rfl
  have r6 : ∀ x : AV, List.replicate 6 x = [x, x, x, x, x, x] := fun _ => rfl
  have hI : pureS funs 282 [.agg [.i .i64 6, .i .i64 0, .i .i64 0, .i .i64 0, .i .i64 0, .sl [.i .i64 1, .i .i64 1] 1 .non, .i .i64 (-(1 + k0))], .i .i64 2, .i .i64 2] = some (.b false) := swI16 (1 + k0) (by omega)
  have hB := swBig (6 + (1 + k0)) (by omega)
  have hC := swCheck 6 0 0 0 0 [.i .i64 1, .i .i64 1] 1 (-(1 + k0)) hI
  simp only [swIn, swG2, List.cons_append, List.nil_append] at hC
  have hG := swGood5
  have hA := sw_awake
  have hq : abin .quo (.i .i64 16) (.i .i64 3) = some (.i .i64 5) := rfl
  have hi0 : (0 : Int) ≤ 5 := by omega
  have hi1 : (5 : Int) < 6 := by omega
  have hi2 : (5 : Int) < ((6 : Nat) : Int) := by omega
  have hi3 : (5 : Int).toNat = 5 := rfl
  have hj3 : (2 : Int).toNat = 2 := rfl
  have pg : Go.Ab.part ([.i .i64 1, .i .i64 1, .i .i64 0, .i .i64 7, .i .i64 1, .sl [] 0 .rig, .i .i64 0] ++ [.i .i64 2, .i .i64 2, .i .i64 0, .i .i64 0, .i .i64 1, .sl [.i .i64 1, .i .i64 1] 1 .rig, .i .i64 0] ++ [.i .i64 3, .i .i64 4, .i .i64 0, .i .i64 0, .i .i64 0, .sl [] 0 .rig, .i .i64 0] ++ [.i .i64 4, .i .i64 1, .i .i64 2, .i .i64 1, .i .i64 1, .sl [.i .i64 1, .i .i64 1] 1 .rig, .i .i64 0] ++ [.i .i64 5, .i .i64 0, .i .i64 0, .i .i64 1, .i .i64 0, .sl [.i .i64 1, .i .i64 1] 1 .rig, .i .i64 0] ++ [.i .i64 6, .i .i64 0, .i .i64 0, .i .i64 0, .i .i64 0, .sl [.i .i64 1, .i .i64 1] 1 .rig, .i .i64 2]) 35 (some 7) = some (.agg [.i .i64 6, .i .i64 0, .i .i64 0, .i .i64 0, .i .i64 0, .sl [.i .i64 1, .i .i64 1] 1 .rig, .i .i64 2]) := rfl
  have p2 : Go.Ab.part ([.i .i64 1, .i .i64 1, .i .i64 0, .i .i64 7, .i .i64 1, .sl [] 0 .rig, .i .i64 0] ++ [.i .i64 2, .i .i64 2, .i .i64 0, .i .i64 0, .i .i64 1, .sl [.i .i64 1, .i .i64 1] 1 .rig, .i .i64 0] ++ [.i .i64 3, .i .i64 4, .i .i64 0, .i .i64 0, .i .i64 0, .sl [] 0 .rig, .i .i64 0] ++ [.i .i64 4, .i .i64 1, .i .i64 2, .i .i64 1, .i .i64 1, .sl [.i .i64 1, .i .i64 1] 1 .rig, .i .i64 0] ++ [.i .i64 5, .i .i64 0, .i .i64 0, .i .i64 1, .i .i64 0, .sl [.i .i64 1, .i .i64 1] 1 .rig, .i .i64 0] ++ [.i .i64 6, .i .i64 0, .i .i64 0, .i .i64 0, .i .i64 0, .sl [.i .i64 1, .i .i64 1] 1 .rig, .i .i64 2]) 14 (some 7) = some (.agg [.i .i64 3, .i .i64 4, .i .i64 0, .i .i64 0, .i .i64 0, .sl [] 0 .rig, .i .i64 0]) := rfl
  simp only [List.cons_append, List.nil_append] at pg p2
  have p7 : ∀ a b c d e f x : AV, Go.Ab.part [a, b, c, d, e, f, x] 0 (some 7) = some (.agg [a, b, c, d, e, f, x]) := fun _ _ _ _ _ _ _ => rfl
  have fz7 : ∀ (hp : Nat → Option Blk) (a b c d e f : Int) (cs : List AV) (n : Nat) (t : Tok), frz hp depth (.agg [.i .i64 a, .i .i64 b, .i .i64 c, .i .i64 d, .i .i64 e, .sl cs n t, .i .i64 f]) = some (.agg [.i .i64 a, .i .i64 b, .i .i64 c, .i .i64 d, .i .i64 e, .sl cs n .non, .i .i64 f]) := by
    intro hp a b c d e f cs n t
    refine frz_d_agg ?_
    show frzL _ (7 + 1) _ = _
    simp only [frzL, frz]
  have fz2 : ∀ (hp : Nat → Option Blk) (a : Int) (cs : List AV) (n : Nat) (t : Tok), frz hp depth (.agg [.i .i64 a, .sl cs n t]) = some (.agg [.i .i64 a, .sl cs n .non]) := by
    intro hp a cs n t
    refine frz_d_agg ?_
    show frzL _ (7 + 1) _ = _
    simp only [frzL, frz]
  have wB : IntKind.i64.wrap (1 + k0) = 1 + k0 := wrap_id (by omega) (by omega)
  have w6 : IntKind.i64.wrap (6 + (1 + k0)) = 6 + (1 + k0) := wrap_id (by omega) (by omega)
  have be0 : ((16 : Int) == 0) = false := rfl
  have be1 : ((16 : Int) == 1) = false := rfl
  have be2 : ((16 : Int) == 2) = false := rfl
  have be3 : ((16 : Int) == 3) = false := rfl
  have be4 : ((16 : Int) == 4) = false := rfl
  have be5 : ((16 : Int) == 5) = false := rfl
  have be6 : ((16 : Int) == 6) = false := rfl
  have be7 : ((16 : Int) == 7) = false := rfl
  have be8 : ((16 : Int) == 8) = false := rfl
  have be9 : ((16 : Int) == 9) = false := rfl
  have be10 : ((16 : Int) == 10) = false := rfl
  have be11 : ((16 : Int) == 11) = false := rfl
  have be12 : ((16 : Int) == 12) = false := rfl
  have be13 : ((16 : Int) == 13) = false := rfl
  have be14 : ((16 : Int) == 14) = false := rfl
  have be15 : ((16 : Int) == 15) = false := rfl
  have be16 : ((16 : Int) == 16) = true := rfl
  have nX : aun .neg (.i .i64 (1 + k0)) = some (.i .i64 (-(1 + k0))) := neg_small (by omega) (by omega)
  simp (disch := omega) only [A_xlaw04_SoundWrong, wp, Nat.reduceAdd, Nat.reduceMul, Nat.reduceSub, gl, hp1, hp2, r4, r5, r6, hI, hB, hC, hG, hA, hq, hi0, hi1, hi2, hi3, hj3, be0, be1, be2, be3, be4, be5, be6, be7, be8, be9, be10, be11, be12, be13, be14, be15, be16, fz7, fz2, pg, p2, p7, wB, w6, nX, splice, List.take_succ_cons, List.take_zero, List.drop_succ_cons, List.drop_zero]
set_option maxHeartbeats 8000000 in
theorem swCase17 (how v k0 : Int) (h0 : 0 ≤ k0) (h1 : k0 < 1000) (hp1 : pureS funs 10 [.i .i64 v, .i .i64 1000] = some (.i .i64 k0)) (hp2 : pureS funs 10 [.i .i64 how, .i .i64 18] = some (.i .i64 17)) :
    W funs A_xlaw04_SoundWrong.body (argEnv [.i .i64 how, .i .i64 v]) g0 (retQ A_xlaw04_SoundWrong.res (.b true)) := by
  have r5 : ∀ x : AV, List.replicate 5 x = [x, x, x, x, x] := fun _ => rfl
  have r4 : ∀ x : AV, List.replicate 4 x = [x, x, x, x] := fun _ => rfl
  have r6 : ∀ x : AV, List.replicate 6 x = [x, x, x, x, x, x] := fun _ => rfl
  have hI : pureS funs 282 [.agg [.i .i64 6, .i .i64 0, .i .i64 0, .i .i64 1, .i .i64 0, .sl [.i .i64 1, .i .i64 1] 1 .non, .i .i64 2], .i .i64 2, .i .i64 2] = some (.b false) := swI17
  have hB := swBig (6 + (1 + k0)) (by omega)
  have hC := swCheck 6 0 0 1 0 [.i .i64 1, .i .i64 1] 1 2 hI
  simp only [swIn, swG2, List.cons_append, List.nil_append] at hC
  have hG := swGood5
  have hA := sw_awake
  have hq : abin .quo (.i .i64 17) (.i .i64 3) = some (.i .i64 5) := rfl
  have hi0 : (0 : Int) ≤ 5 := by omega
  have hi1 : (5 : Int) < 6 := by omega
  have hi2 : (5 : Int) < ((6 : Nat) : Int) := by omega
  have hi3 : (5 : Int).toNat = 5 := rfl
  have hj3 : (2 : Int).toNat = 2 := rfl
  have pg : Go.Ab.part ([.i .i64 1, .i .i64 1, .i .i64 0, .i .i64 7, .i .i64 1, .sl [] 0 .rig, .i .i64 0] ++ [.i .i64 2, .i .i64 2, .i .i64 0, .i .i64 0, .i .i64 1, .sl [.i .i64 1, .i .i64 1] 1 .rig, .i .i64 0] ++ [.i .i64 3, .i .i64 4, .i .i64 0, .i .i64 0, .i .i64 0, .sl [] 0 .rig, .i .i64 0] ++ [.i .i64 4, .i .i64 1, .i .i64 2, .i .i64 1, .i .i64 1, .sl [.i .i64 1, .i .i64 1] 1 .rig, .i .i64 0] ++ [.i .i64 5, .i .i64 0, .i .i64 0, .i .i64 1, .i .i64 0, .sl [.i .i64 1, .i .i64 1] 1 .rig, .i .i64 0] ++ [.i .i64 6, .i .i64 0, .i .i64 0, .i .i64 0, .i .i64 0, .sl [.i .i64 1, .i .i64 1] 1 .rig, .i .i64 2]) 35 (some 7) = some (.agg [.i .i64 6, .i .i64 0, .i .i64 0, .i .i64 0, .i .i64 0, .sl [.i .i64 1, .i .i64 1] 1 .rig, .i .i64 2]) := rfl
  have p2 : Go.Ab.part ([.i .i64 1, .i .i64 1, .i .i64 0, .i .i64 7, .i .i64 1, .sl [] 0 .rig, .i .i64 0] ++ [.i .i64 2, .i .i64 2, .i .i64 0, .i .i64 0, .i .i64 1, .sl [.i .i64 1, .i .i64 1] 1 .rig, .i .i64 0] ++ [.i .i64 3, .i .i64 4, .i .i64 0, .i .i64 0, .i .i64 0, .sl [] 0 .rig, .i .i64 0] ++ [.i .i64 4, .i .i64 1, .i .i64 2, .i .i64 1, .i .i64 1, .sl [.i .i64 1, .i .i64 1] 1 .rig, .i .i64 0] ++ [.i .i64 5, .i .i64 0, .i .i64 0, .i .i64 1, .i .i64 0, .sl [.i .i64 1, .i .i64 1] 1 .rig, .i .i64 0] ++ [.i .i64 6, .i .i64 0, .i .i64 0, .i .i64 0, .i .i64 0, .sl [.i .i64 1, .i .i64 1] 1 .rig, .i .i64 2]) 14 (some 7) = some (.agg [.i .i64 3, .i .i64 4, .i .i64 0, .i .i64 0, .i .i64 0, .sl [] 0 .rig, .i .i64 0]) := rfl
  simp only [List.cons_append, List.nil_append] at pg p2
  have p7 : ∀ a b c d e f x : AV, Go.Ab.part [a, b, c, d, e, f, x] 0 (some 7) = some (.agg [a, b, c, d, e, f, x]) := fun _ _ _ _ _ _ _ => rfl
  have fz7 : ∀ (hp : Nat → Option Blk) (a b c d e f : Int) (cs : List AV) (n : Nat) (t : Tok), frz hp depth (.agg [.i .i64 a, .i .i64 b, .i .i64 c, .i .i64 d, .i .i64 e, .sl cs n t, .i .i64 f]) = some (.agg [.i .i64 a, .i .i64 b, .i .i64 c, .i .i64 d, .i .i64 e, .sl cs n .non, .i .i64 f]) := by
    intro hp a b c d e f cs n t
    refine frz_d_agg ?_
    show frzL _ (7 + 1) _ = _
    simp only [frzL, frz]
  have fz2 : ∀ (hp : Nat → Option Blk) (a : Int) (cs : List AV) (n : Nat) (t : Tok), frz hp depth (.agg [.i .i64 a, .sl cs n t]) = some (.agg [.i .i64 a, .sl cs n .non]) := by
    intro hp a cs n t
    refine frz_d_agg ?_
    show frzL _ (7 + 1) _ = _
    simp only [frzL, frz]
  have wB : IntKind.i64.wrap (1 + k0) = 1 + k0 := wrap_id (by omega) (by omega)
  have w6 : IntKind.i64.wrap (6 + (1 + k0)) = 6 + (1 + k0) := wrap_id (by omega) (by omega)
  have be0 : ((17 : Int) == 0) = false := rfl
  have be1 : ((17 : Int) == 1) = false := rfl
  have be2 : ((17 : Int) == 2) = false := rfl
  have be3 : ((17 : Int) == 3) = false := rfl
  have be4 : ((17 : Int) == 4) = false := rfl
  have be5 : ((17 : Int) == 5) = false := rfl
  have be6 : ((17 : Int) == 6) = false := rfl
  have be7 : ((17 : Int) == 7) = false := rfl
  have be8 : ((17 : Int) == 8) = false := rfl
  have be9 : ((17 : Int) == 9) = false := rfl
  have be10 : ((17 : Int) == 10) = false := rfl
  have be11 : ((17 : Int) == 11) = false := rfl
  have be12 : ((17 : Int) == 12) = false := rfl
  have be13 : ((17 : Int) == 13) = false := rfl
  have be14 : ((17 : Int) == 14) = false := rfl
  have be15 : ((17 : Int) == 15) = false := rfl
  have be16 : ((17 : Int) == 16) = false := rfl
  simp (disch := omega) only [A_xlaw04_SoundWrong, wp, Nat.reduceAdd, Nat.reduceMul, Nat.reduceSub, gl, hp1, hp2, r4, r5, r6, hI, hB, hC, hG, hA, hq, hi0, hi1, hi2, hi3, hj3, be0, be1, be2, be3, be4, be5, be6, be7, be8, be9, be10, be11, be12, be13, be14, be15, be16, fz7, fz2, pg, p2, p7, wB, w6, splice, List.take_succ_cons, List.take_zero, List.drop_succ_cons, List.drop_zero]
end Go.Proofs.Ytkbggcmlmlnepaa
end
section
namespace Go.Proofs.Ytkbggcmlmlnepaa
open Go.Ab
theorem soundWrong_law (how v : Int) : pureS funs 272 [.i .i64 how, .i .i64 v] = some (.b true) := by
  refine pure_of (fn := A_xlaw04_SoundWrong) rfl ?_
  have hp1 := sp_place (F := funs) rfl (v := v) (n := 1000) (by omega) (by omega)
  have hp2 := sp_place (F := funs) rfl (v := how) (n := 18) (by omega) (by omega)
  obtain ⟨r0, r1⟩ := place_lt (v := v) (n := 1000) (by omega)
  obtain ⟨q0, q1⟩ := place_lt (v := how) (n := 18) (by omega)
  generalize place v 1000 = k0 at hp1 r0 r1
  generalize place how 18 = x at hp2 q0 q1
  have h : x = 0 ∨ x = 1 ∨ x = 2 ∨ x = 3 ∨ x = 4 ∨ x = 5 ∨ x = 6 ∨ x = 7 ∨ x = 8 ∨ x = 9 ∨ x = 10 ∨ x = 11 ∨ x = 12 ∨ x = 13 ∨ x = 14 ∨ x = 15 ∨ x = 16 ∨ x = 17 := by omega
  rcases h with rfl | rfl | rfl | rfl | rfl | rfl | rfl | rfl | rfl | rfl | rfl | rfl | rfl | rfl | rfl | rfl | rfl | rfl
  · exact swCase0 how v k0 r0 r1 hp1 hp2
  · exact swCase1 how v k0 r0 r1 hp1 hp2
  · exact swCase2 how v k0 r0 r1 hp1 hp2
  · exact swCase3 how v k0 r0 r1 hp1 hp2
  · exact swCase4 how v k0 r0 r1 hp1 hp2
  · exact swCase5 how v k0 r0 r1 hp1 hp2
  · exact swCase6 how v k0 r0 r1 hp1 hp2
  · exact swCase7 how v k0 r0 r1 hp1 hp2
  · exact swCase8 how v k0 r0 r1 hp1 hp2
  · exact swCase9 how v k0 r0 r1 hp1 hp2
  · exact swCase10 how v k0 r0 r1 hp1 hp2
  · exact swCase11 how v k0 r0 r1 hp1 hp2
  · exact swCase12 how v k0 r0 r1 hp1 hp2
  · exact swCase13 how v k0 r0 r1 hp1 hp2
  · exact swCase14 how v k0 r0 r1 hp1 hp2
  · exact swCase15 how v k0 r0 r1 hp1 hp2
  · exact swCase16 how v k0 r0 r1 hp1 hp2
  · exact swCase17 how v k0 r0 r1 hp1 hp2
end Go.Proofs.Ytkbggcmlmlnepaa
end
