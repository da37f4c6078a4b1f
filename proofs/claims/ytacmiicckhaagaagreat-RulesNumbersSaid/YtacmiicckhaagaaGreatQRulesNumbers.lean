/- exegesislaw: RulesNumbers: for every input the law returns true, and each argument reads asx before. No further conditions. -/
import Derived.Test.YtacmiicckhaagaaGreatRows
import Derived.WalkKit
import Derived.ProofKit
import Derived.OpenShut
import Derived.Carry
import Derived.ChangeOld
import Derived.Below
import Derived.Test.YtacmiicckhaagaaGreatPRulesNumbers5
set_option linter.unusedVariables false
namespace Go.Proofs.YtacmiicckhaagaaGreat.rulesNumbers
open Go.ChangeShapes Go.WideShapes Go.ChangeAt Go.RowKit
theorem own : ownKnob Tryz.prog.godebug = none := by kernel_rfl
theorem laidOut : laidOutB Tryz.prog = true := by kernel_rfl
theorem walk {xs : List Go.Ab.AV} {vargs : List Value} {w : World} (h : Go.Ab.pureS funs 545 xs = some (.b true)) (hr : Go.Ab.Reps (Go.Ab.c0 num w) true xs vargs) : Calls Tryz.prog 4 vargs.toArray w fun e w' => e = .returned (.bool true) ∧ Below w.heap.size w w' :=
  Go.Ab.row_calls (num := num) (f := 545) table (by kernel_rfl) (by kernel_rfl) h hr
set_option maxRecDepth 100000 in
theorem lifted (os : Os) (started : os.Started) (H : Type) (enc : TypeId × Value → H) :
    ReturnsInHanded {} Tryz.checked os 4 .any (Rows.rulesNumbersSpec.pre6 enc Tryz.prog Tryz.f4 Rows.rulesNumbersRow.domain false) (Rows.rulesNumbersSpec.post enc Tryz.prog Tryz.f4 false true false false) := by
  refine returnsInHanded_of_change (C := Tryz.checked) own started (by kernel_rfl) Tryz.func4
    (ChangeSpec.witness6 (enc := enc) (C := Tryz.checked) false ⟨#[], #[.slice none 0 0, .int .i64 0, .slice none 0 0], []⟩ 8 (by kernel_rfl) (by kernel_rfl) (by kernel_rfl) (by kernel_rfl)) ?_
  intro W base args ds gs before hval0 hW hcnd _
  have hval : ∀ (j : Nat) t v, Tryz.f4.params[j]? = some t → args[j]? = some v → Value.okWide Tryz.prog W .any base t v := hval0
  have hW' := hW
  obtain ⟨p, q, hA0, hV, rfl, hfz, hnd⟩ := hW
  have hA : DataW.TrodAll enc Tryz.prog W 0 (fun _ => true) true Tryz.f4.params.toList args.toList ds p := hA0
  rw [Tryz.params4] at hA hval
  obtain ⟨v0, vs0, d0, ds0, p0, q0, hargs, rfl, rfl, h0, r0⟩ := trodAll_cons hA
  obtain ⟨v1, vs1, d1, ds1, p1, q1, rfl, rfl, rfl, h1, r1⟩ := trodAll_cons r0
  obtain ⟨v2, vs2, d2, ds2, p2, q2, rfl, rfl, rfl, h2, r2⟩ := trodAll_cons r1
  obtain ⟨rfl, rfl, rfl⟩ := trodAll_nil r2
  obtain rfl : args = #[v0, v1, v2] := by cases args; simp_all
  obtain ⟨rfl, rfl⟩ := trodVars_none hV
  have k0 := h0
  have lt0 : ∀ x ∈ p0, x.block < W.heap.size := by obtain ⟨m, hm⟩ := k0; exact DataW.trod_lt m _ _ _ hm
  have k1 := h1
  have lt1 : ∀ x ∈ p1, x.block < W.heap.size := by obtain ⟨m, hm⟩ := k1; exact DataW.trod_lt m _ _ _ hm
  have k2 := h2
  have lt2 : ∀ x ∈ p2, x.block < W.heap.size := by obtain ⟨m, hm⟩ := k2; exact DataW.trod_lt m _ _ _ hm
  obtain ⟨b0, len0, cap0, rfl⟩ := okWide_slice Tryz.underlying36 (hval 0 36 v0 rfl rfl)
  obtain ⟨x0, s0, rep0⟩ := Go.Ab.read_one (c := Go.Ab.c0 num W) rfl rfl 2 (by kernel_rfl) rfl k0
  obtain ⟨a0, rfl, u0, w0⟩ := Go.Ab.sh_ints Tryz.underlying36 Tryz.underlying3 s0
  obtain ⟨a1, rfl, rfl, rfl, w1⟩ := open_int Tryz.underlying3 (hval 1 3 v1 rfl rfl) h1
  obtain ⟨b2, len2, cap2, rfl⟩ := okWide_slice Tryz.underlying36 (hval 2 36 v2 rfl rfl)
  obtain ⟨x2, s2, rep2⟩ := Go.Ab.read_one (c := Go.Ab.c0 num W) rfl rfl 2 (by kernel_rfl) rfl k2
  obtain ⟨a2, rfl, u2, w2⟩ := Go.Ab.sh_ints Tryz.underlying36 Tryz.underlying3 s2
  clear hA0 hval0
  refine (walk (w := W) (rulesNumbers_law a0 a2 a1 u0) (Go.Ab.Reps.cons rep0 <| Go.Ab.Reps.cons (.i _ _) <| Go.Ab.Reps.cons rep2 <| Go.Ab.Reps.nil)).mono fun e W' ⟨he, bel⟩ => ?_
  subst he
  exact ⟨_, rfl, _, _, _, [], _, [], hW', trodAll_mk1 (shut_bool Tryz.underlying4 _), (trodAll_cons_mk (Below.trod laidOut (by kernel_rfl) (of_decide_eq_true (by kernel_rfl)) k0 bel lt0) (trodAll_cons_mk (Below.trod laidOut (by kernel_rfl) (of_decide_eq_true (by kernel_rfl)) k1 bel lt1) (trodAll_cons_mk (Below.trod laidOut (by kernel_rfl) (of_decide_eq_true (by kernel_rfl)) k2 bel lt2) trodAll_mk0))), rfl, bel.frame _, fun h => by cases h⟩
theorem over : Rows.rulesNumbersRow.holds Tryz.pinned (OpenSpec.ofChange Rows.rulesNumbersSpec) :=
  OpenClaim.holds_of_wide 4 Tryz.f4 rfl rfl rfl rfl rfl rfl rfl ⟨rfl, rfl, rfl, rfl, rfl⟩ rfl rfl rfl rfl rfl (by kernel_rfl) Tryz.func4 (by kernel_rfl)
    (of_decide_eq_true (by kernel_rfl)) (by unfold Func.isWrapper; first | (rw [if_pos (by decide +kernel)]; kernel_rfl) | (rw [if_neg (by decide +kernel)]; exact ⟨rfl, rfl⟩))
    (fun os started H enc _ => lifted os started H enc)
end Go.Proofs.YtacmiicckhaagaaGreat.rulesNumbers
namespace Go.Proofs.YtacmiicckhaagaaGreat
/-- The statement. -/
theorem rulesNumbers_holds : Rows.RulesNumbersSaid := rulesNumbers.over
#print axioms rulesNumbers_holds
end Go.Proofs.YtacmiicckhaagaaGreat
