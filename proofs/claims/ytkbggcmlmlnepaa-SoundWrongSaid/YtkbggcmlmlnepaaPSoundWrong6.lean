/- What SoundWrong rests on, part 6: lemmas, no claim of its own. -/
import Derived.Test.YtkbggcmlmlnepaaPSoundWrong5
section
set_option linter.unusedVariables false
set_option linter.unusedSimpArgs false
set_option maxRecDepth 100000
namespace Go.Proofs.Ytkbggcmlmlnepaa
open Go.Ab
set_option maxHeartbeats 8000000 in
theorem swCase8 (how v k0 : Int) (h0 : 0 ≤ k0) (h1 : k0 < 1000) (hp1 : pureS funs 10 [.i .i64 v, .i .i64 1000] = some (.i .i64 k0)) (hp2 : pureS funs 10 [.i .i64 how, .i .i64 18] = some (.i .i64 8)) :
    W funs A_xlaw04_SoundWrong.body (argEnv [.i .i64 how, .i .i64 v]) g0 (retQ A_xlaw04_SoundWrong.res (.b true)) := by
  have r5 : ∀ x : AV, List.replicate 5 x = [x, x, x, x, x] := fun _ => rfl
  have r4 : ∀ x : AV, List.replicate 4 x = [x, x, x, x] := fun _ => rfl
  have r6 : ∀ x : AV, List.replicate 6 x = [x, x, x, x, x, x] := fun _ => rfl
  have hI : pureS funs 282 [.agg [.i .i64 3, .i .i64 (4 + (1 + k0)), .i .i64 0, .i .i64 0, .i .i64 0, .sl [] 0 .non, .i .i64 0], .i .i64 2, .i .i64 2] = some (.b false) := swI8 (1 + k0) (by omega)
  have hB := swBig (6 + (1 + k0)) (by omega)
  have hC := swCheck 3 (4 + (1 + k0)) 0 0 0 [] 0 0 hI
  simp only [swIn, swG2, List.cons_append, List.nil_append] at hC
  have hG := swGood2
  have hA := sw_awake
  have hq : abin .quo (.i .i64 8) (.i .i64 3) = some (.i .i64 2) := rfl
  have hi0 : (0 : Int) ≤ 2 := by omega
  have hi1 : (2 : Int) < 6 := by omega
  have hi2 : (2 : Int) < ((6 : Nat) : Int) := by omega
  have hi3 : (2 : Int).toNat = 2 := rfl
  have hj3 : (2 : Int).toNat = 2 := rfl
  have pg : Go.Ab.part ([.i .i64 1, .i .i64 1, .i .i64 0, .i .i64 7, .i .i64 1, .sl [] 0 .rig, .i .i64 0] ++ [.i .i64 2, .i .i64 2, .i .i64 0, .i .i64 0, .i .i64 1, .sl [.i .i64 1, .i .i64 1] 1 .rig, .i .i64 0] ++ [.i .i64 3, .i .i64 4, .i .i64 0, .i .i64 0, .i .i64 0, .sl [] 0 .rig, .i .i64 0] ++ [.i .i64 4, .i .i64 1, .i .i64 2, .i .i64 1, .i .i64 1, .sl [.i .i64 1, .i .i64 1] 1 .rig, .i .i64 0] ++ [.i .i64 5, .i .i64 0, .i .i64 0, .i .i64 1, .i .i64 0, .sl [.i .i64 1, .i .i64 1] 1 .rig, .i .i64 0] ++ [.i .i64 6, .i .i64 0, .i .i64 0, .i .i64 0, .i .i64 0, .sl [.i .i64 1, .i .i64 1] 1 .rig, .i .i64 2]) 14 (some 7) = some (.agg [.i .i64 3, .i .i64 4, .i .i64 0, .i .i64 0, .i .i64 0, .sl [] 0 .rig, .i .i64 0]) := rfl
  have p2 : Go.Ab.part ([.i .i64 1, .i .i64 1, .i .i64 0, .i .i64 7, .i .i64 1, .sl [] 0 .rig, .i .i64 0] ++ [.i .i64 2, .i .i64 2, .i .i64 0, .i .i64 0, .i .i64 1, .sl [.i .i64 1, .i .i64 1] 1 .rig, .i .i64 0] ++ [.i .i64 3, .i .i64 4, .i .i64 0, .i .i64 0, .i .i64 0, .sl [] 0 .rig, .i .i64 0] ++ [.i .i64 4, .i .i64 1, .i .i64 2, .i .i64 1, .i .i64 1, .sl [.i .i64 1, .i .i64 1] 1 .rig, .i .i64 0] ++ [.i .i64 5, .i .i64 0, .i .i64 0, .i .i64 1, .i .i64 0, .sl [.i .i64 1, .i .i64 1] 1 .rig, .i .i64 0] ++ [.i .i64 6, .i .i64 0, .i .i64 0, .i .i64 0, .i .i64 0, .sl [.i .i64 1, .i .i64 1] 1 .rig, .i .i64 2]) 14 (some 7) = some (.agg [.i .i64 3, .i .i64 4, .i .i64 0, .i .i64 0, .i .i64 0, .sl [] 0 .rig, .i .i64 0]) := rfl
  simp only [List.cons_append, List.nil_append] at pg p2
  have p7 : ∀ a b c d e f x : AV, Go.Ab.part [a, b, c, d, e, f, x] 0 (some 7) = some (.agg [a, b, c, d, e, f, x]) := fun _ _ _ _ _ _ _ => rfl
  have fz7 : ∀ (hp : Nat → Option Blk) (a b c d e f : Int) (cs : List AV) (n : Nat) (t : Tok), frz hp depth (.agg [.i .i64 a, .i .i64 b, .i .i64 c, .i .i64 d, .i .i64 e, .sl cs n t, .i .i64 f]) = some (.agg [.i .i64 a, .i .i64 b, .i .i64 c, .i .i64 d, .i .i64 e, .sl cs n .non, .i .i64 f]) := by
    intro hp a b c d e f cs n t
    refine frz_d_agg ?_
    show frzL _ (7 + 1) _ = _
    simp only [frzL, frz]
  have fz2 : ∀ (hp : Nat → Option Blk) (a : Int) (cs : List AV) (n : Nat) (t : Tok), frz hp depth (.agg [.i .i64 a, .sl cs n t]) = some (.agg [.i .i64 a, .sl cs n .non]) := by
    intro hp a cs n t
    refine frz_d_agg ?_
    show frzL _ (7 + 1) _ = _
    simp only [frzL, frz]
  have wB : IntKind.i64.wrap (1 + k0) = 1 + k0 := wrap_id (by omega) (by omega)
  have w6 : IntKind.i64.wrap (6 + (1 + k0)) = 6 + (1 + k0) := wrap_id (by omega) (by omega)
  have be0 : ((8 : Int) == 0) = false := rfl
  have be1 : ((8 : Int) == 1) = false := rfl
  have be2 : ((8 : Int) == 2) = false := rfl
  have be3 : ((8 : Int) == 3) = false := rfl
  have be4 : ((8 : Int) == 4) = false := rfl
  have be5 : ((8 : Int) == 5) = false := rfl
  have be6 : ((8 : Int) == 6) = false := rfl
  have be7 : ((8 : Int) == 7) = false := rfl
  have be8 : ((8 : Int) == 8) = true := rfl
  have be9 : ((8 : Int) == 9) = false := rfl
  have be10 : ((8 : Int) == 10) = false := rfl
  have be11 : ((8 : Int) == 11) = false := rfl
  have be12 : ((8 : Int) == 12) = false := rfl
  have be13 : ((8 : Int) == 13) = false := rfl
  have be14 : ((8 : Int) == 14) = false := rfl
  have be15 : ((8 : Int) == 15) = false := rfl
  have be16 : ((8 : Int) == 16) = false := rfl
  have wX : IntKind.i64.wrap (4 + (1 + k0)) = 4 + (1 + k0) := wrap_id (by omega) (by omega)
  simp (disch := omega) only [A_xlaw04_SoundWrong, wp, Nat.reduceAdd, Nat.reduceMul, Nat.reduceSub, gl, hp1, hp2, r4, r5, r6, hI, hB, hC, hG, hA, hq, hi0, hi1, hi2, hi3, hj3, be0, be1, be2, be3, be4, be5, be6, be7, be8, be9, be10, be11, be12, be13, be14, be15, be16, fz7, fz2, pg, p2, p7, wB, w6, wX, splice, List.take_succ_cons, List.take_zero, List.drop_succ_cons, List.drop_zero]
set_option maxHeartbeats 8000000 in
theorem swCase9 (how v k0 : Int) (h0 : 0 ≤ k0) (h1 : k0 < 1000) (hp1 : pureS funs 10 [.i .i64 v, .i .i64 1000] = some (.i .i64 k0)) (hp2 : pureS funs 10 [.i .i64 how, .i .i64 18] = some (.i .i64 9)) :
    W funs A_xlaw04_SoundWrong.body (argEnv [.i .i64 how, .i .i64 v]) g0 (retQ A_xlaw04_SoundWrong.res (.b true)) := by
  have r5 : ∀ x : AV, List.replicate 5 x = [x, x, x, x, x] := fun _ => rfl
  have r4 : ∀ x : AV, List.replicate 4 x = [x, x, x, x] := fun _ => rfl
  have r6 : ∀ x : AV, List.replicate 6 x = [x, x, x, x, x, x] := fun _ => rfl
  have hI : pureS funs 282 [.agg [.i .i64 4, .i .i64 1, .i .i64 2, .i .i64 1, .i .i64 1, .sl [.i .i64 2, .i .i64 1] 1 .non, .i .i64 0], .i .i64 2, .i .i64 2] = some (.b false) := swI9
  have hB := swBig (6 + (1 + k0)) (by omega)
  have hC := swCheck 4 1 2 1 1 [.i .i64 2, .i .i64 1] 1 0 hI
  simp only [swIn, swG2, List.cons_append, List.nil_append] at hC
  have hG := swGood3
  have hA := sw_awake
  have hq : abin .quo (.i .i64 9) (.i .i64 3) = some (.i .i64 3) := rfl
  have hi0 : (0 : Int) ≤ 3 := by omega
  have hi1 : (3 : Int) < 6 := by omega
  have hi2 : (3 : Int) < ((6 : Nat) : Int) := by omega
  have hi3 : (3 : Int).toNat = 3 := rfl
  have hj3 : (2 : Int).toNat = 2 := rfl
  have pg : Go.Ab.part ([.i .i64 1, .i .i64 1, .i .i64 0, .i .i64 7, .i .i64 1, .sl [] 0 .rig, .i .i64 0] ++ [.i .i64 2, .i .i64 2, .i .i64 0, .i .i64 0, .i .i64 1, .sl [.i .i64 1, .i .i64 1] 1 .rig, .i .i64 0] ++ [.i .i64 3, .i .i64 4, .i .i64 0, .i .i64 0, .i .i64 0, .sl [] 0 .rig, .i .i64 0] ++ [.i .i64 4, .i .i64 1, .i .i64 2, .i .i64 1, .i .i64 1, .sl [.i .i64 1, .i .i64 1] 1 .rig, .i .i64 0] ++ [.i .i64 5, .i .i64 0, .i .i64 0, .i .i64 1, .i .i64 0, .sl [.i .i64 1, .i .i64 1] 1 .rig, .i .i64 0] ++ [.i .i64 6, .i .i64 0, .i .i64 0, .i .i64 0, .i .i64 0, .sl [.i .i64 1, .i .i64 1] 1 .rig, .i .i64 2]) 21 (some 7) = some (.agg [.i .i64 4, .i .i64 1, .i .i64 2, .i .i64 1, .i .i64 1, .sl [.i .i64 1, .i .i64 1] 1 .rig, .i .i64 0]) := rfl
  have p2 : Go.Ab.part ([.i .i64 1, .i .i64 1, .i .i64 0, .i .i64 7, .i .i64 1, .sl [] 0 .rig, .i .i64 0] ++ [.i .i64 2, .i .i64 2, .i .i64 0, .i .i64 0, .i .i64 1, .sl [.i .i64 1, .i .i64 1] 1 .rig, .i .i64 0] ++ [.i .i64 3, .i .i64 4, .i .i64 0, .i .i64 0, .i .i64 0, .sl [] 0 .rig, .i .i64 0] ++ [.i .i64 4, .i .i64 1, .i .i64 2, .i .i64 1, .i .i64 1, .sl [.i .i64 1, .i .i64 1] 1 .rig, .i .i64 0] ++ [.i .i64 5, .i .i64 0, .i .i64 0, .i .i64 1, .i .i64 0, .sl [.i .i64 1, .i .i64 1] 1 .rig, .i .i64 0] ++ [.i .i64 6, .i .i64 0, .i .i64 0, .i .i64 0, .i .i64 0, .sl [.i .i64 1, .i .i64 1] 1 .rig, .i .i64 2]) 14 (some 7) = some (.agg [.i .i64 3, .i .i64 4, .i .i64 0, .i .i64 0, .i .i64 0, .sl [] 0 .rig, .i .i64 0]) := rfl
  simp only [List.cons_append, List.nil_append] at pg p2
  have p7 : ∀ a b c d e f x : AV, Go.Ab.part [a, b, c, d, e, f, x] 0 (some 7) = some (.agg [a, b, c, d, e, f, x]) := fun _ _ _ _ _ _ _ => rfl
  have fz7 : ∀ (hp : Nat → Option Blk) (a b c d e f : Int) (cs : List AV) (n : Nat) (t : Tok), frz hp depth (.agg [.i .i64 a, .i .i64 b, .i .i64 c, .i .i64 d, .i .i64 e, .sl cs n t, .i .i64 f]) = some (.agg [.i .i64 a, .i .i64 b, .i .i64 c, .i .i64 d, .i .i64 e, .sl cs n .non, .i .i64 f]) := by
    intro hp a b c d e f cs n t
    refine frz_d_agg ?_
    show frzL _ (7 + 1) _ = _
    simp only [frzL, frz]
  have fz2 : ∀ (hp : Nat → Option Blk) (a : Int) (cs : List AV) (n : Nat) (t : Tok), frz hp depth (.agg [.i .i64 a, .sl cs n t]) = some (.agg [.i .i64 a, .sl cs n .non]) := by
    intro hp a cs n t
    refine frz_d_agg ?_
    show frzL _ (7 + 1) _ = _
    simp only [frzL, frz]
  have wB : IntKind.i64.wrap (1 + k0) = 1 + k0 := wrap_id (by omega) (by omega)
  have w6 : IntKind.i64.wrap (6 + (1 + k0)) = 6 + (1 + k0) := wrap_id (by omega) (by omega)
  have be0 : ((9 : Int) == 0) = false := rfl
  have be1 : ((9 : Int) == 1) = false := rfl
  have be2 : ((9 : Int) == 2) = false := rfl
  have be3 : ((9 : Int) == 3) = false := rfl
  have be4 : ((9 : Int) == 4) = false := rfl
  have be5 : ((9 : Int) == 5) = false := rfl
  have be6 : ((9 : Int) == 6) = false := rfl
  have be7 : ((9 : Int) == 7) = false := rfl
  have be8 : ((9 : Int) == 8) = false := rfl
  have be9 : ((9 : Int) == 9) = true := rfl
  have be10 : ((9 : Int) == 10) = false := rfl
  have be11 : ((9 : Int) == 11) = false := rfl
  have be12 : ((9 : Int) == 12) = false := rfl
  have be13 : ((9 : Int) == 13) = false := rfl
  have be14 : ((9 : Int) == 14) = false := rfl
  have be15 : ((9 : Int) == 15) = false := rfl
  have be16 : ((9 : Int) == 16) = false := rfl
  simp (disch := omega) only [A_xlaw04_SoundWrong, wp, Nat.reduceAdd, Nat.reduceMul, Nat.reduceSub, gl, hp1, hp2, r4, r5, r6, hI, hB, hC, hG, hA, hq, hi0, hi1, hi2, hi3, hj3, be0, be1, be2, be3, be4, be5, be6, be7, be8, be9, be10, be11, be12, be13, be14, be15, be16, fz7, fz2, pg, p2, p7, wB, w6, splice, List.take_succ_cons, List.take_zero, List.drop_succ_cons, List.drop_zero]
set_option maxHeartbeats 8000000 in
theorem swCase10 (how v k0 : Int) (h0 : 0 ≤ k0) (h1 : k0 < 1000) (hp1 : pureS funs 10 [.i .i64 v, .i .i64 1000] = some (.i .i64 k0)) (hp2 : pureS funs 10 [.i .i64 how, .i .i64 18] = some (.i .i64 10)) :
    W funs A_xlaw04_SoundWrong.body (argEnv [.i .i64 how, .i .i64 v]) g0 (retQ A_xlaw04_SoundWrong.res (.b true)) := by
  have r5 : ∀ x : AV, List.replicate 5 x = [x, x, x, x, x] := fun _ => rfl
  have r4 : ∀ x : AV, List.replicate 4 x = [x, x, x, x] := fun _ => rfl
  have r6 : ∀ x : AV, List.replicate 6 x = [x, x, x, x, x, x] := fun _ => rfl
  have hI : pureS funs 282 [.agg [.i .i64 4, .i .i64 1, .i .i64 1, .i .i64 1, .i .i64 1, .sl [.i .i64 1, .i .i64 1] 1 .non, .i .i64 0], .i .i64 2, .i .i64 2] = some (.b false) := swI10
  have hB := swBig (6 + (1 + k0)) (by omega)
  have hC := swCheck 4 1 1 1 1 [.i .i64 1, .i .i64 1] 1 0 hI
  simp only [swIn, swG2, List.cons_append, List.nil_append] at hC
  have hG := swGood3
  have hA := sw_awake
  have hq : abin .quo (.i .i64 10) (.i .i64 3) = some (.i .i64 3) := rfl
  have hi0 : (0 : Int) ≤ 3 := by omega
  have hi1 : (3 : Int) < 6 := by omega
  have hi2 : (3 : Int) < ((6 : Nat) : Int) := by omega
  have hi3 : (3 : Int).toNat = 3 := rfl
  have hj3 : (2 : Int).toNat = 2 := rfl
  have pg : Go.Ab.part ([.i .i64 1, .i .i64 1, .i .i64 0, .i .i64 7, .i .i64 1, .sl [] 0 .rig, .i .i64 0] ++ [.i .i64 2, .i .i64 2, .i .i64 0, .i .i64 0, .i .i64 1, .sl [.i .i64 1, .i .i64 1] 1 .rig, .i .i64 0] ++ [.i .i64 3, .i .i64 4, .i .i64 0, .i .i64 0, .i .i64 0, .sl [] 0 .rig, .i .i64 0] ++ [.i .i64 4, .i .i64 1, .i .i64 2, .i .i64 1, .i .i64 1, .sl [.i .i64 1, .i .i64 1] 1 .rig, .i .i64 0] ++ [.i .i64 5, .i .i64 0, .i .i64 0, .i .i64 1, .i .i64 0, .sl [.i .i64 1, .i .i64 1] 1 .rig, .i .i64 0] ++ [.i .i64 6, .i .i64 0, .i .i64 0, .i .i64 0, .i .i64 0, .sl [.i .i64 1, .i .i64 1] 1 .rig, .i .i64 2]) 21 (some 7) = some (.agg [.i .i64 4, .i .i64 1, .i .i64 2, .i .i64 1, .i .i64 1, .sl [.i .i64 1, .i .i64 1] 1 .rig, .i .i64 0]) := rfl
  have p2 : Go.Ab.part ([.i .i64 1, .i .i64 1, .i .i64 0, .i .i64 7, .i .i64 1, .sl [] 0 .rig, .i .i64 0] ++ [.i .i64 2, .i .i64 2, .i .i64 0, .i .i64 0, .i .i64 1, .sl [.i .i64 1, .i .i64 1] 1 .rig, .i .i64 0] ++ [.i .i64 3, .i .i64 4, .i .i64 0, .i .i64 0, .i .i64 0, .sl [] 0 .rig, .i .i64 0] ++ [.i .i64 4, .i .i64 1, .i .i64 2, .i .i64 1, .i .i64 1, .sl [.i .i64 1, .i .i64 1] 1 .rig, .i .i64 0] ++ [.i .i64 5, .i .i64 0, .i .i64 0, .i .i64 1, .i .i64 0, .sl [.i .i64 1, .i .i64 1] 1 .rig, .i .i64 0] ++ [.i .i64 6, .i .i64 0, .i .i64 0, .i .i64 0, .i .i64 0, .sl [.i .i64 1, .i .i64 1] 1 .rig, .i .i64 2]) 14 (some 7) = some (.agg [.i .i64 3, .i .i64 4, .i .i64 0, .i .i64 0, .i .i64 0, .sl [] 0 .rig, .i .i64 0]) := rfl
  simp only [List.cons_append, List.nil_append] at pg p2
  have p7 : ∀ a b c d e f x : AV, Go.Ab.part [a, b, c, d, e, f, x] 0 (some 7) = some (.agg [a, b, c, d, e, f, x]) := fun _ _ _ _ _ _ _ => rfl
  have fz7 : ∀ (hp : Nat → Option Blk) (a b c d e f : Int) (cs : List AV) (n : Nat) (t : Tok), frz hp depth (.agg [.i .i64 a, .i .i64 b, .i .i64 c, .i .i64 d, .i .i64 e, .sl cs n t, .i .i64 f]) = some (.agg [.i .i64 a, .i .i64 b, .i .i64 c, .i .i64 d, .i .i64 e, .sl cs n .non, .i .i64 f]) := by
    intro hp a b c d e f cs n t
    refine frz_d_agg ?_
    show frzL _ (7 + 1) _ = _
    simp only [frzL, frz]
  have fz2 : ∀ (hp : Nat → Option Blk) (a : Int) (cs : List AV) (n : Nat) (t : Tok), frz hp depth (.agg [.i .i64 a, .sl cs n t]) = some (.agg [.i .i64 a, .sl cs n .non]) := by
    intro hp a cs n t
    refine frz_d_agg ?_
    show frzL _ (7 + 1) _ = _
    simp only [frzL, frz]
  have wB : IntKind.i64.wrap (1 + k0) = 1 + k0 := wrap_id (by omega) (by omega)
  have w6 : IntKind.i64.wrap (6 + (1 + k0)) = 6 + (1 + k0) := wrap_id (by omega) (by omega)
  have be0 : ((10 : Int) == 0) = false := rfl
  have be1 : ((10 : Int) == 1) = false := rfl
  have be2 : ((10 : Int) == 2) = false := rfl
  have be3 : ((10 : Int) == 3) = false := rfl
  have be4 : ((10 : Int) == 4) = false := rfl
  have be5 : ((10 : Int) == 5) = false := rfl
  have be6 : ((10 : Int) == 6) = false := rfl
  have be7 : ((10 : Int) == 7) = false := rfl
  have be8 : ((10 : Int) == 8) = false := rfl
  have be9 : ((10 : Int) == 9) = false := rfl
  have be10 : ((10 : Int) == 10) = true := rfl
  have be11 : ((10 : Int) == 11) = false := rfl
  have be12 : ((10 : Int) == 12) = false := rfl
  have be13 : ((10 : Int) == 13) = false := rfl
  have be14 : ((10 : Int) == 14) = false := rfl
  have be15 : ((10 : Int) == 15) = false := rfl
  have be16 : ((10 : Int) == 16) = false := rfl
  simp (disch := omega) only [A_xlaw04_SoundWrong, wp, Nat.reduceAdd, Nat.reduceMul, Nat.reduceSub, gl, hp1, hp2, r4, r5, r6, hI, hB, hC, hG, hA, hq, hi0, hi1, hi2, hi3, hj3, be0, be1, be2, be3, be4, be5, be6, be7, be8, be9, be10, be11, be12, be13, be14, be15, be16, fz7, fz2, pg, p2, p7, wB, w6, splice, List.take_succ_cons, List.take_zero, List.drop_succ_cons, List.drop_zero]
end Go.Proofs.Ytkbggcmlmlnepaa
end
