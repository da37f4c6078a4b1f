/-
  No cell of these rows narrows 'for every input' (looked for: loops, veiled, ifaces, maps, wideKeys, modest, calm, conditions, laid).
  DERIVED. THE GIVEN ROWS OF THIS SEAT. 9 by the template 'for every input the law returns true; each argument reads behind the call as it read before'; 0 by the template 'total and deterministic' (their statements: YtfhinaopoffcnaaTotals.lean).
  GIVEN WITH THE SEED: the statements are not yours to turn. If you find one false, say at which input.
  Laid BY PROGRAM, IN A SANDBOX (cutbox-rows.mjs): the forced cells as the released guide's own fill.sh prints them over the translation a99b3529509da413… (all of the seat's roots in one cut). By AI agents, Wed Nov 11 2026. No macro, syntax, notation, axiom, sorry.
-/
import Derived.Test.YtfhinaopoffcnaaChecked
import GoSem.Claim
import GoSem.ClaimJoined
import GoSem.ClaimMapViews
import Derived.JoinedTies
import Derived.KernelRfl
namespace Go.Proofs.Ytfhinaopoffcnaa
/- THE CELL 'sum', in the pinned program and in every row, IS THE sha256 OF THE DUMP (.gsa) THAT YtfhinaopoffcnaaProg.lean LOADS. Nothing in Lean hashes anything: it is a label: what it is worth is what the hold of that sum in a sandbox is worth. -/
noncomputable def Try.pinned : Pinned := { name := "ytfhinaopoffcnaa", sum := "a99b3529509da4134dc00161405d0286f0398059495c61772bf4bf16f7f1e745", checked := Try.checked }
namespace Rows
def none {H : Type} : Left H := { results := [], args := [] }

/-- 'exegesislaw01.RelLines': WHATEVER THE INPUT: true; the input reads as it did. -/
def relLinesSpec : ChangeSpec := { name := "relLines", fn := fun _ => fun
  | [d1, d2] => { results := [.lit (.bool true)], args := [d1, d2] }
  | _ => none }
def relLinesRow : OpenClaim := { program := "ytfhinaopoffcnaa", sum := "a99b3529509da4134dc00161405d0286f0398059495c61772bf4bf16f7f1e745", func := "exegesis/exegesislaw01.RelLines", spec := "relLines", unfollowed := true, recurses := true, apart := false }
def RelLinesSaid : Prop := relLinesRow.holds Try.pinned (OpenSpec.ofChange relLinesSpec)

/-- ITS FALSE NEIGHBOUR: 'it returns false'. Refute it at one input. -/
def relLinesWrong : ChangeSpec := { name := "relLines", fn := fun _ => fun
  | [d1, d2] => { results := [.lit (.bool false)], args := [d1, d2] }
  | _ => none }
def RelLinesWrongFalsely : Prop := relLinesRow.holds Try.pinned (OpenSpec.ofChange relLinesWrong)

/-- 'exegesislaw01.RelAlgebra': WHATEVER THE INPUT: true; the input reads as it did. -/
def relAlgebraSpec : ChangeSpec := { name := "relAlgebra", fn := fun _ => fun
  | [d1, d2, d3, d4] => { results := [.lit (.bool true)], args := [d1, d2, d3, d4] }
  | _ => none }
def relAlgebraRow : OpenClaim := { program := "ytfhinaopoffcnaa", sum := "a99b3529509da4134dc00161405d0286f0398059495c61772bf4bf16f7f1e745", func := "exegesis/exegesislaw01.RelAlgebra", spec := "relAlgebra", unfollowed := true, recurses := true, apart := false }
def RelAlgebraSaid : Prop := relAlgebraRow.holds Try.pinned (OpenSpec.ofChange relAlgebraSpec)

/-- ITS FALSE NEIGHBOUR: 'it returns false'. Refute it at one input. -/
def relAlgebraWrong : ChangeSpec := { name := "relAlgebra", fn := fun _ => fun
  | [d1, d2, d3, d4] => { results := [.lit (.bool false)], args := [d1, d2, d3, d4] }
  | _ => none }
def RelAlgebraWrongFalsely : Prop := relAlgebraRow.holds Try.pinned (OpenSpec.ofChange relAlgebraWrong)

/-- 'exegesislaw01.RelSizes': WHATEVER THE INPUT: true; the input reads as it did. -/
def relSizesSpec : ChangeSpec := { name := "relSizes", fn := fun _ => fun
  | [d1, d2, d3, d4] => { results := [.lit (.bool true)], args := [d1, d2, d3, d4] }
  | _ => none }
def relSizesRow : OpenClaim := { program := "ytfhinaopoffcnaa", sum := "a99b3529509da4134dc00161405d0286f0398059495c61772bf4bf16f7f1e745", func := "exegesis/exegesislaw01.RelSizes", spec := "relSizes", unfollowed := true, recurses := true, apart := false }
def RelSizesSaid : Prop := relSizesRow.holds Try.pinned (OpenSpec.ofChange relSizesSpec)

/-- ITS FALSE NEIGHBOUR: 'it returns false'. Refute it at one input. -/
def relSizesWrong : ChangeSpec := { name := "relSizes", fn := fun _ => fun
  | [d1, d2, d3, d4] => { results := [.lit (.bool false)], args := [d1, d2, d3, d4] }
  | _ => none }
def RelSizesWrongFalsely : Prop := relSizesRow.holds Try.pinned (OpenSpec.ofChange relSizesWrong)

/-- 'exegesislaw01.RelAll': WHATEVER THE INPUT: true; the input reads as it did. -/
def relAllSpec : ChangeSpec := { name := "relAll", fn := fun _ => fun
  | [d1, d2, d3, d4] => { results := [.lit (.bool true)], args := [d1, d2, d3, d4] }
  | _ => none }
def relAllRow : OpenClaim := { program := "ytfhinaopoffcnaa", sum := "a99b3529509da4134dc00161405d0286f0398059495c61772bf4bf16f7f1e745", func := "exegesis/exegesislaw01.RelAll", spec := "relAll", unfollowed := true, recurses := true, apart := false }
def RelAllSaid : Prop := relAllRow.holds Try.pinned (OpenSpec.ofChange relAllSpec)

/-- ITS FALSE NEIGHBOUR: 'it returns false'. Refute it at one input. -/
def relAllWrong : ChangeSpec := { name := "relAll", fn := fun _ => fun
  | [d1, d2, d3, d4] => { results := [.lit (.bool false)], args := [d1, d2, d3, d4] }
  | _ => none }
def RelAllWrongFalsely : Prop := relAllRow.holds Try.pinned (OpenSpec.ofChange relAllWrong)

/-- 'exegesislaw09.EcoThreads': WHATEVER THE INPUT: true; the input reads as it did. -/
def ecoThreadsSpec : ChangeSpec := { name := "ecoThreads", fn := fun _ => fun
  | [d] => { results := [.lit (.bool true)], args := [d] }
  | _ => none }
def ecoThreadsRow : OpenClaim := { program := "ytfhinaopoffcnaa", sum := "a99b3529509da4134dc00161405d0286f0398059495c61772bf4bf16f7f1e745", func := "exegesis/exegesislaw09.EcoThreads", spec := "ecoThreads", unfollowed := true, recurses := true, apart := false }
def EcoThreadsSaid : Prop := ecoThreadsRow.holds Try.pinned (OpenSpec.ofChange ecoThreadsSpec)

/-- ITS FALSE NEIGHBOUR: 'it returns false'. Refute it at one input. -/
def ecoThreadsWrong : ChangeSpec := { name := "ecoThreads", fn := fun _ => fun
  | [d] => { results := [.lit (.bool false)], args := [d] }
  | _ => none }
def EcoThreadsWrongFalsely : Prop := ecoThreadsRow.holds Try.pinned (OpenSpec.ofChange ecoThreadsWrong)

/-- 'exegesislaw09.EcoAny': WHATEVER THE INPUT: true; the input reads as it did. -/
def ecoAnySpec : ChangeSpec := { name := "ecoAny", fn := fun _ => fun
  | [d1, d2] => { results := [.lit (.bool true)], args := [d1, d2] }
  | _ => none }
def ecoAnyRow : OpenClaim := { program := "ytfhinaopoffcnaa", sum := "a99b3529509da4134dc00161405d0286f0398059495c61772bf4bf16f7f1e745", func := "exegesis/exegesislaw09.EcoAny", spec := "ecoAny", unfollowed := true, recurses := true, apart := false }
def EcoAnySaid : Prop := ecoAnyRow.holds Try.pinned (OpenSpec.ofChange ecoAnySpec)

/-- ITS FALSE NEIGHBOUR: 'it returns false'. Refute it at one input. -/
def ecoAnyWrong : ChangeSpec := { name := "ecoAny", fn := fun _ => fun
  | [d1, d2] => { results := [.lit (.bool false)], args := [d1, d2] }
  | _ => none }
def EcoAnyWrongFalsely : Prop := ecoAnyRow.holds Try.pinned (OpenSpec.ofChange ecoAnyWrong)

/-- 'exegesislaw09.EcoNumbers': WHATEVER THE INPUT: true; the input reads as it did. -/
def ecoNumbersSpec : ChangeSpec := { name := "ecoNumbers", fn := fun _ => fun
  | [d1, d2, d3] => { results := [.lit (.bool true)], args := [d1, d2, d3] }
  | _ => none }
def ecoNumbersRow : OpenClaim := { program := "ytfhinaopoffcnaa", sum := "a99b3529509da4134dc00161405d0286f0398059495c61772bf4bf16f7f1e745", func := "exegesis/exegesislaw09.EcoNumbers", spec := "ecoNumbers", unfollowed := true, recurses := true, apart := false }
def EcoNumbersSaid : Prop := ecoNumbersRow.holds Try.pinned (OpenSpec.ofChange ecoNumbersSpec)

/-- ITS FALSE NEIGHBOUR: 'it returns false'. Refute it at one input. -/
def ecoNumbersWrong : ChangeSpec := { name := "ecoNumbers", fn := fun _ => fun
  | [d1, d2, d3] => { results := [.lit (.bool false)], args := [d1, d2, d3] }
  | _ => none }
def EcoNumbersWrongFalsely : Prop := ecoNumbersRow.holds Try.pinned (OpenSpec.ofChange ecoNumbersWrong)

/-- 'exegesislaw09.EcoLine': WHATEVER THE INPUT: true; the input reads as it did. -/
def ecoLineSpec : ChangeSpec := { name := "ecoLine", fn := fun _ => fun
  | [d1, d2] => { results := [.lit (.bool true)], args := [d1, d2] }
  | _ => none }
def ecoLineRow : OpenClaim := { program := "ytfhinaopoffcnaa", sum := "a99b3529509da4134dc00161405d0286f0398059495c61772bf4bf16f7f1e745", func := "exegesis/exegesislaw09.EcoLine", spec := "ecoLine", unfollowed := true, recurses := true, apart := false }
def EcoLineSaid : Prop := ecoLineRow.holds Try.pinned (OpenSpec.ofChange ecoLineSpec)

/-- ITS FALSE NEIGHBOUR: 'it returns false'. Refute it at one input. -/
def ecoLineWrong : ChangeSpec := { name := "ecoLine", fn := fun _ => fun
  | [d1, d2] => { results := [.lit (.bool false)], args := [d1, d2] }
  | _ => none }
def EcoLineWrongFalsely : Prop := ecoLineRow.holds Try.pinned (OpenSpec.ofChange ecoLineWrong)

/-- 'exegesislaw09.EcoPlaces': WHATEVER THE INPUT: true; the input reads as it did. -/
def ecoPlacesSpec : ChangeSpec := { name := "ecoPlaces", fn := fun _ => fun
  | [d1, d2] => { results := [.lit (.bool true)], args := [d1, d2] }
  | _ => none }
def ecoPlacesRow : OpenClaim := { program := "ytfhinaopoffcnaa", sum := "a99b3529509da4134dc00161405d0286f0398059495c61772bf4bf16f7f1e745", func := "exegesis/exegesislaw09.EcoPlaces", spec := "ecoPlaces", unfollowed := true, recurses := true, apart := false }
def EcoPlacesSaid : Prop := ecoPlacesRow.holds Try.pinned (OpenSpec.ofChange ecoPlacesSpec)

/-- ITS FALSE NEIGHBOUR: 'it returns false'. Refute it at one input. -/
def ecoPlacesWrong : ChangeSpec := { name := "ecoPlaces", fn := fun _ => fun
  | [d1, d2] => { results := [.lit (.bool false)], args := [d1, d2] }
  | _ => none }
def EcoPlacesWrongFalsely : Prop := ecoPlacesRow.holds Try.pinned (OpenSpec.ofChange ecoPlacesWrong)

/- THE SECOND FORM. 'bulk': how many values and letters a reading holds, each counted each time it is reached (what is shared counts as often as it is met; a slice's spare places count too). A statement '..UptoSaid' is the law's where the arguments, and the package variables that the reading takes, are together of bulk at most 1048576: NARROWER than '..Said'. Prove '..Said' where nothing that the law and all that it calls make is longer than what came in: it says more and counts as full. Else prove '..UptoSaid'. A law counts once. -/
mutual
def uptoBulk {H : Type} : DataW H → Nat
  | .lit (.string bytes) => bytes.length + 1
  | .lit _ => 1
  | .nil => 1
  | .ptr d => uptoBulk d + 1
  | .slice elems spare => uptoBulkAll elems + uptoBulkAll spare + 1
  | .agg parts => uptoBulkAll parts + 1
  | .iface _ d => uptoBulk d + 1
  | .map entries => uptoBulkEntries entries + 1
  | .held _ => 1
def uptoBulkAll {H : Type} : List (DataW H) → Nat
  | [] => 0
  | d :: r => uptoBulk d + uptoBulkAll r
def uptoBulkEntries {H : Type} : List (Lit × DataW H) → Nat
  | [] => 0
  | x :: r => uptoBulkEntry x + uptoBulkEntries r
def uptoBulkEntry {H : Type} : Lit × DataW H → Nat
  | (.string bytes, d) => bytes.length + uptoBulk d + 1
  | (_, d) => uptoBulk d + 1
 end
def uptoSmall : (H : Type) → List (DataW H) → Bool := fun _ ds => decide (uptoBulkAll ds ≤ 1048576)
def OpenSpec.upto (s : _root_.Go.ChangeSpec) : _root_.Go.OpenSpec := { _root_.Go.OpenSpec.ofChange s with cond := some uptoSmall }

/-- 'exegesislaw01.RelLines', WHERE WHAT IT READS IS OF BULK AT MOST 1048576: true; the input reads as it did. -/
def relLinesUptoRow : OpenClaim := { program := "ytfhinaopoffcnaa", sum := "a99b3529509da4134dc00161405d0286f0398059495c61772bf4bf16f7f1e745", func := "exegesis/exegesislaw01.RelLines", spec := "relLines", unfollowed := true, recurses := true, apart := false, narrowed := true }
def RelLinesUptoSaid : Prop := relLinesUptoRow.holds Try.pinned (OpenSpec.upto relLinesSpec)

/-- 'exegesislaw01.RelAlgebra', WHERE WHAT IT READS IS OF BULK AT MOST 1048576: true; the input reads as it did. -/
def relAlgebraUptoRow : OpenClaim := { program := "ytfhinaopoffcnaa", sum := "a99b3529509da4134dc00161405d0286f0398059495c61772bf4bf16f7f1e745", func := "exegesis/exegesislaw01.RelAlgebra", spec := "relAlgebra", unfollowed := true, recurses := true, apart := false, narrowed := true }
def RelAlgebraUptoSaid : Prop := relAlgebraUptoRow.holds Try.pinned (OpenSpec.upto relAlgebraSpec)

/-- 'exegesislaw01.RelSizes', WHERE WHAT IT READS IS OF BULK AT MOST 1048576: true; the input reads as it did. -/
def relSizesUptoRow : OpenClaim := { program := "ytfhinaopoffcnaa", sum := "a99b3529509da4134dc00161405d0286f0398059495c61772bf4bf16f7f1e745", func := "exegesis/exegesislaw01.RelSizes", spec := "relSizes", unfollowed := true, recurses := true, apart := false, narrowed := true }
def RelSizesUptoSaid : Prop := relSizesUptoRow.holds Try.pinned (OpenSpec.upto relSizesSpec)

/-- 'exegesislaw01.RelAll', WHERE WHAT IT READS IS OF BULK AT MOST 1048576: true; the input reads as it did. -/
def relAllUptoRow : OpenClaim := { program := "ytfhinaopoffcnaa", sum := "a99b3529509da4134dc00161405d0286f0398059495c61772bf4bf16f7f1e745", func := "exegesis/exegesislaw01.RelAll", spec := "relAll", unfollowed := true, recurses := true, apart := false, narrowed := true }
def RelAllUptoSaid : Prop := relAllUptoRow.holds Try.pinned (OpenSpec.upto relAllSpec)

/-- 'exegesislaw09.EcoThreads', WHERE WHAT IT READS IS OF BULK AT MOST 1048576: true; the input reads as it did. -/
def ecoThreadsUptoRow : OpenClaim := { program := "ytfhinaopoffcnaa", sum := "a99b3529509da4134dc00161405d0286f0398059495c61772bf4bf16f7f1e745", func := "exegesis/exegesislaw09.EcoThreads", spec := "ecoThreads", unfollowed := true, recurses := true, apart := false, narrowed := true }
def EcoThreadsUptoSaid : Prop := ecoThreadsUptoRow.holds Try.pinned (OpenSpec.upto ecoThreadsSpec)

/-- 'exegesislaw09.EcoAny', WHERE WHAT IT READS IS OF BULK AT MOST 1048576: true; the input reads as it did. -/
def ecoAnyUptoRow : OpenClaim := { program := "ytfhinaopoffcnaa", sum := "a99b3529509da4134dc00161405d0286f0398059495c61772bf4bf16f7f1e745", func := "exegesis/exegesislaw09.EcoAny", spec := "ecoAny", unfollowed := true, recurses := true, apart := false, narrowed := true }
def EcoAnyUptoSaid : Prop := ecoAnyUptoRow.holds Try.pinned (OpenSpec.upto ecoAnySpec)

/-- 'exegesislaw09.EcoNumbers', WHERE WHAT IT READS IS OF BULK AT MOST 1048576: true; the input reads as it did. -/
def ecoNumbersUptoRow : OpenClaim := { program := "ytfhinaopoffcnaa", sum := "a99b3529509da4134dc00161405d0286f0398059495c61772bf4bf16f7f1e745", func := "exegesis/exegesislaw09.EcoNumbers", spec := "ecoNumbers", unfollowed := true, recurses := true, apart := false, narrowed := true }
def EcoNumbersUptoSaid : Prop := ecoNumbersUptoRow.holds Try.pinned (OpenSpec.upto ecoNumbersSpec)

/-- 'exegesislaw09.EcoLine', WHERE WHAT IT READS IS OF BULK AT MOST 1048576: true; the input reads as it did. -/
def ecoLineUptoRow : OpenClaim := { program := "ytfhinaopoffcnaa", sum := "a99b3529509da4134dc00161405d0286f0398059495c61772bf4bf16f7f1e745", func := "exegesis/exegesislaw09.EcoLine", spec := "ecoLine", unfollowed := true, recurses := true, apart := false, narrowed := true }
def EcoLineUptoSaid : Prop := ecoLineUptoRow.holds Try.pinned (OpenSpec.upto ecoLineSpec)

/-- 'exegesislaw09.EcoPlaces', WHERE WHAT IT READS IS OF BULK AT MOST 1048576: true; the input reads as it did. -/
def ecoPlacesUptoRow : OpenClaim := { program := "ytfhinaopoffcnaa", sum := "a99b3529509da4134dc00161405d0286f0398059495c61772bf4bf16f7f1e745", func := "exegesis/exegesislaw09.EcoPlaces", spec := "ecoPlaces", unfollowed := true, recurses := true, apart := false, narrowed := true }
def EcoPlacesUptoSaid : Prop := ecoPlacesUptoRow.holds Try.pinned (OpenSpec.upto ecoPlacesSpec)

end Rows
end Go.Proofs.Ytfhinaopoffcnaa
