/- exegesislaw: MemOrder: for every input the law returns true, and each argument reads asx before. No further conditions. -/
import Derived.Test.YthpfjbakmedfiaaRows
import Derived.WalkKit
import Derived.ProofKit
import Derived.OpenShut
import Derived.Carry
import Derived.ChangeOld
import Derived.Below
import Derived.Test.YthpfjbakmedfiaaPMemOrder3
set_option linter.unusedVariables false
namespace Go.Proofs.Ythpfjbakmedfiaa.memOrder
open Go.ChangeShapes Go.WideShapes Go.ChangeAt Go.RowKit
theorem own : ownKnob Try.prog.godebug = none := by kernel_rfl
theorem laidOut : laidOutB Try.prog = true := by kernel_rfl
theorem walk {xs : List Go.Ab.AV} {vargs : List Value} {w : World} (h : Go.Ab.pureS funs 537 xs = some (.b true)) (hr : Go.Ab.Reps (Go.Ab.c0 num w) true xs vargs) : Calls Try.prog 4 vargs.toArray w fun e w' => e = .returned (.bool true) ∧ Below w.heap.size w w' :=
  Go.Ab.row_calls (num := num) (f := 537) table (by kernel_rfl) (by kernel_rfl) h hr
set_option maxRecDepth 100000 in
theorem lifted (os : Os) (started : os.Started) (H : Type) (enc : TypeId × Value → H) :
    ReturnsInHanded {} Try.checked os 4 .any (Rows.memOrderSpec.pre6 enc Try.prog Try.f4 Rows.memOrderRow.domain false) (Rows.memOrderSpec.post enc Try.prog Try.f4 false true false false) := by
  refine returnsInHanded_of_change (C := Try.checked) own started (by kernel_rfl) Try.func4
    (ChangeSpec.witness6 (enc := enc) (C := Try.checked) false ⟨#[], #[.slice none 0 0], []⟩ 8 (by kernel_rfl) (by kernel_rfl) (by kernel_rfl) (by kernel_rfl)) ?_
  intro W base args ds gs before hval0 hW hcnd _
  have hval : ∀ (j : Nat) t v, Try.f4.params[j]? = some t → args[j]? = some v → Value.okWide Try.prog W .any base t v := hval0
  have hW' := hW
  obtain ⟨p, q, hA0, hV, rfl, hfz, hnd⟩ := hW
  have hA : DataW.TrodAll enc Try.prog W 0 (fun _ => true) true Try.f4.params.toList args.toList ds p := hA0
  rw [Try.params4] at hA hval
  obtain ⟨v0, vs0, d0, ds0, p0, q0, hargs, rfl, rfl, h0, r0⟩ := trodAll_cons hA
  obtain ⟨rfl, rfl, rfl⟩ := trodAll_nil r0
  obtain rfl : args = #[v0] := by cases args; simp_all
  obtain ⟨rfl, rfl⟩ := trodVars_none hV
  have k0 := h0
  have lt0 : ∀ x ∈ p0, x.block < W.heap.size := by obtain ⟨m, hm⟩ := k0; exact DataW.trod_lt m _ _ _ hm
  obtain ⟨b0, len0, cap0, rfl⟩ := okWide_slice Try.underlying22 (hval 0 22 v0 rfl rfl)
  obtain ⟨x0, s0, rep0⟩ := Go.Ab.read_one (c := Go.Ab.c0 num W) rfl rfl 3 (by kernel_rfl) rfl k0
  obtain ⟨a0, rfl, u0⟩ := Go.Ab.sh_lls Try.underlying22 Try.underlying23 Try.underlying3 s0
  clear hA0 hval0
  refine (walk (w := W) (memOrder_law a0) (Go.Ab.Reps.cons rep0 <| Go.Ab.Reps.nil)).mono fun e W' ⟨he, bel⟩ => ?_
  subst he
  exact ⟨_, rfl, _, _, _, [], _, [], hW', trodAll_mk1 (shut_bool Try.underlying4 _), (trodAll_cons_mk (Below.trod laidOut (by kernel_rfl) (of_decide_eq_true (by kernel_rfl)) k0 bel lt0) trodAll_mk0), rfl, bel.frame _, fun h => by cases h⟩
theorem over : Rows.memOrderRow.holds Try.pinned (OpenSpec.ofChange Rows.memOrderSpec) :=
  OpenClaim.holds_of_wide 4 Try.f4 rfl rfl rfl rfl rfl rfl rfl ⟨rfl, rfl, rfl, rfl, rfl⟩ rfl rfl rfl rfl rfl (by kernel_rfl) Try.func4 (by kernel_rfl)
    (of_decide_eq_true (by kernel_rfl)) (by unfold Func.isWrapper; first | (rw [if_pos (by decide +kernel)]; kernel_rfl) | (rw [if_neg (by decide +kernel)]; exact ⟨rfl, rfl⟩))
    (fun os started H enc _ => lifted os started H enc)
end Go.Proofs.Ythpfjbakmedfiaa.memOrder
namespace Go.Proofs.Ythpfjbakmedfiaa
/-- The statement. -/
theorem memOrder_holds : Rows.MemOrderSaid := memOrder.over
#print axioms memOrder_holds
end Go.Proofs.Ythpfjbakmedfiaa
