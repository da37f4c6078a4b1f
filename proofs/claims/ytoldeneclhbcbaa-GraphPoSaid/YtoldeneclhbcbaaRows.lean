/-
  No cell of these rows narrows 'for every input' (looked for: loops, veiled, ifaces, maps, wideKeys, modest, calm, conditions, laid).
  DERIVED. THE GIVEN ROWS OF THIS SEAT. 5 by the template 'for every input the law returns true; each argument reads behind the call as it read before'; 0 by the template 'total and deterministic' (their statements: YtoldeneclhbcbaaTotals.lean).
  GIVEN WITH THE SEED: the statements are not yours to turn. If you find one false, say at which input.
  Laid BY PROGRAM, IN A SANDBOX (cutbox-rows.mjs): the forced cells as the released guide's own fill.sh prints them over the translation 7a17d50b5245d03d… (all of the seat's roots in one cut). By AI agents, Wed Nov 11 2026. No macro, syntax, notation, axiom, sorry.
-/
import Derived.Test.YtoldeneclhbcbaaChecked
import GoSem.Claim
import GoSem.ClaimJoined
import GoSem.ClaimMapViews
import Derived.JoinedTies
import Derived.KernelRfl
namespace Go.Proofs.Ytoldeneclhbcbaa
/- THE CELL 'sum', in the pinned program and in every row, IS THE sha256 OF THE DUMP (.gsa) THAT YtoldeneclhbcbaaProg.lean LOADS. Nothing in Lean hashes anything: it is a label: what it is worth is what the hold of that sum in a sandbox is worth. -/
noncomputable def Try.pinned : Pinned := { name := "ytoldeneclhbcbaa", sum := "7a17d50b5245d03dcf693bc537a10c36fb45d32fb8cbf94801fd02e9cc2f9aa0", checked := Try.checked }
namespace Rows
def none {H : Type} : Left H := { results := [], args := [] }

/-- 'exegesislaw01.RelLines': WHATEVER THE INPUT: true; the input reads as it did. -/
def relLinesSpec : ChangeSpec := { name := "relLines", fn := fun _ => fun
  | [d1, d2] => { results := [.lit (.bool true)], args := [d1, d2] }
  | _ => none }
def relLinesRow : OpenClaim := { program := "ytoldeneclhbcbaa", sum := "7a17d50b5245d03dcf693bc537a10c36fb45d32fb8cbf94801fd02e9cc2f9aa0", func := "exegesis/exegesislaw01.RelLines", spec := "relLines", unfollowed := true, recurses := true, apart := false }
def RelLinesSaid : Prop := relLinesRow.holds Try.pinned (OpenSpec.ofChange relLinesSpec)

/-- ITS FALSE NEIGHBOUR: 'it returns false'. Refute it at one input. -/
def relLinesWrong : ChangeSpec := { name := "relLines", fn := fun _ => fun
  | [d1, d2] => { results := [.lit (.bool false)], args := [d1, d2] }
  | _ => none }
def RelLinesWrongFalsely : Prop := relLinesRow.holds Try.pinned (OpenSpec.ofChange relLinesWrong)

/-- 'exegesislaw01.RelAlgebra': WHATEVER THE INPUT: true; the input reads as it did. -/
def relAlgebraSpec : ChangeSpec := { name := "relAlgebra", fn := fun _ => fun
  | [d1, d2, d3, d4] => { results := [.lit (.bool true)], args := [d1, d2, d3, d4] }
  | _ => none }
def relAlgebraRow : OpenClaim := { program := "ytoldeneclhbcbaa", sum := "7a17d50b5245d03dcf693bc537a10c36fb45d32fb8cbf94801fd02e9cc2f9aa0", func := "exegesis/exegesislaw01.RelAlgebra", spec := "relAlgebra", unfollowed := true, recurses := true, apart := false }
def RelAlgebraSaid : Prop := relAlgebraRow.holds Try.pinned (OpenSpec.ofChange relAlgebraSpec)

/-- ITS FALSE NEIGHBOUR: 'it returns false'. Refute it at one input. -/
def relAlgebraWrong : ChangeSpec := { name := "relAlgebra", fn := fun _ => fun
  | [d1, d2, d3, d4] => { results := [.lit (.bool false)], args := [d1, d2, d3, d4] }
  | _ => none }
def RelAlgebraWrongFalsely : Prop := relAlgebraRow.holds Try.pinned (OpenSpec.ofChange relAlgebraWrong)

/-- 'exegesislaw01.RelSizes': WHATEVER THE INPUT: true; the input reads as it did. -/
def relSizesSpec : ChangeSpec := { name := "relSizes", fn := fun _ => fun
  | [d1, d2, d3, d4] => { results := [.lit (.bool true)], args := [d1, d2, d3, d4] }
  | _ => none }
def relSizesRow : OpenClaim := { program := "ytoldeneclhbcbaa", sum := "7a17d50b5245d03dcf693bc537a10c36fb45d32fb8cbf94801fd02e9cc2f9aa0", func := "exegesis/exegesislaw01.RelSizes", spec := "relSizes", unfollowed := true, recurses := true, apart := false }
def RelSizesSaid : Prop := relSizesRow.holds Try.pinned (OpenSpec.ofChange relSizesSpec)

/-- ITS FALSE NEIGHBOUR: 'it returns false'. Refute it at one input. -/
def relSizesWrong : ChangeSpec := { name := "relSizes", fn := fun _ => fun
  | [d1, d2, d3, d4] => { results := [.lit (.bool false)], args := [d1, d2, d3, d4] }
  | _ => none }
def RelSizesWrongFalsely : Prop := relSizesRow.holds Try.pinned (OpenSpec.ofChange relSizesWrong)

/-- 'exegesislaw01.RelAll': WHATEVER THE INPUT: true; the input reads as it did. -/
def relAllSpec : ChangeSpec := { name := "relAll", fn := fun _ => fun
  | [d1, d2, d3, d4] => { results := [.lit (.bool true)], args := [d1, d2, d3, d4] }
  | _ => none }
def relAllRow : OpenClaim := { program := "ytoldeneclhbcbaa", sum := "7a17d50b5245d03dcf693bc537a10c36fb45d32fb8cbf94801fd02e9cc2f9aa0", func := "exegesis/exegesislaw01.RelAll", spec := "relAll", unfollowed := true, recurses := true, apart := false }
def RelAllSaid : Prop := relAllRow.holds Try.pinned (OpenSpec.ofChange relAllSpec)

/-- ITS FALSE NEIGHBOUR: 'it returns false'. Refute it at one input. -/
def relAllWrong : ChangeSpec := { name := "relAll", fn := fun _ => fun
  | [d1, d2, d3, d4] => { results := [.lit (.bool false)], args := [d1, d2, d3, d4] }
  | _ => none }
def RelAllWrongFalsely : Prop := relAllRow.holds Try.pinned (OpenSpec.ofChange relAllWrong)

/-- 'exegesislaw06.GraphPo': WHATEVER THE INPUT: true; the input reads as it did. -/
def graphPoSpec : ChangeSpec := { name := "graphPo", fn := fun _ => fun
  | [d1, d2] => { results := [.lit (.bool true)], args := [d1, d2] }
  | _ => none }
def graphPoRow : OpenClaim := { program := "ytoldeneclhbcbaa", sum := "7a17d50b5245d03dcf693bc537a10c36fb45d32fb8cbf94801fd02e9cc2f9aa0", func := "exegesis/exegesislaw06.GraphPo", spec := "graphPo", unfollowed := true, recurses := true, apart := false }
def GraphPoSaid : Prop := graphPoRow.holds Try.pinned (OpenSpec.ofChange graphPoSpec)

/-- ITS FALSE NEIGHBOUR: 'it returns false'. Refute it at one input. -/
def graphPoWrong : ChangeSpec := { name := "graphPo", fn := fun _ => fun
  | [d1, d2] => { results := [.lit (.bool false)], args := [d1, d2] }
  | _ => none }
def GraphPoWrongFalsely : Prop := graphPoRow.holds Try.pinned (OpenSpec.ofChange graphPoWrong)

/- THE SECOND FORM. 'bulk': how many values and letters a reading holds, each counted each time it is reached (what is shared counts as often as it is met; a slice's spare places count too). A statement '..UptoSaid' is the law's where the arguments, and the package variables that the reading takes, are together of bulk at most 1048576: NARROWER than '..Said'. Prove '..Said' where nothing that the law and all that it calls make is longer than what came in: it says more and counts as full. Else prove '..UptoSaid'. A law counts once. -/
mutual
def uptoBulk {H : Type} : DataW H → Nat
  | .lit (.string bytes) => bytes.length + 1
  | .lit _ => 1
  | .nil => 1
  | .ptr d => uptoBulk d + 1
  | .slice elems spare => uptoBulkAll elems + uptoBulkAll spare + 1
  | .agg parts => uptoBulkAll parts + 1
  | .iface _ d => uptoBulk d + 1
  | .map entries => uptoBulkEntries entries + 1
  | .held _ => 1
def uptoBulkAll {H : Type} : List (DataW H) → Nat
  | [] => 0
  | d :: r => uptoBulk d + uptoBulkAll r
def uptoBulkEntries {H : Type} : List (Lit × DataW H) → Nat
  | [] => 0
  | x :: r => uptoBulkEntry x + uptoBulkEntries r
def uptoBulkEntry {H : Type} : Lit × DataW H → Nat
  | (.string bytes, d) => bytes.length + uptoBulk d + 1
  | (_, d) => uptoBulk d + 1
 end
def uptoSmall : (H : Type) → List (DataW H) → Bool := fun _ ds => decide (uptoBulkAll ds ≤ 1048576)
def OpenSpec.upto (s : _root_.Go.ChangeSpec) : _root_.Go.OpenSpec := { _root_.Go.OpenSpec.ofChange s with cond := some uptoSmall }

/-- 'exegesislaw01.RelLines', WHERE WHAT IT READS IS OF BULK AT MOST 1048576: true; the input reads as it did. -/
def relLinesUptoRow : OpenClaim := { program := "ytoldeneclhbcbaa", sum := "7a17d50b5245d03dcf693bc537a10c36fb45d32fb8cbf94801fd02e9cc2f9aa0", func := "exegesis/exegesislaw01.RelLines", spec := "relLines", unfollowed := true, recurses := true, apart := false, narrowed := true }
def RelLinesUptoSaid : Prop := relLinesUptoRow.holds Try.pinned (OpenSpec.upto relLinesSpec)

/-- 'exegesislaw01.RelAlgebra', WHERE WHAT IT READS IS OF BULK AT MOST 1048576: true; the input reads as it did. -/
def relAlgebraUptoRow : OpenClaim := { program := "ytoldeneclhbcbaa", sum := "7a17d50b5245d03dcf693bc537a10c36fb45d32fb8cbf94801fd02e9cc2f9aa0", func := "exegesis/exegesislaw01.RelAlgebra", spec := "relAlgebra", unfollowed := true, recurses := true, apart := false, narrowed := true }
def RelAlgebraUptoSaid : Prop := relAlgebraUptoRow.holds Try.pinned (OpenSpec.upto relAlgebraSpec)

/-- 'exegesislaw01.RelSizes', WHERE WHAT IT READS IS OF BULK AT MOST 1048576: true; the input reads as it did. -/
def relSizesUptoRow : OpenClaim := { program := "ytoldeneclhbcbaa", sum := "7a17d50b5245d03dcf693bc537a10c36fb45d32fb8cbf94801fd02e9cc2f9aa0", func := "exegesis/exegesislaw01.RelSizes", spec := "relSizes", unfollowed := true, recurses := true, apart := false, narrowed := true }
def RelSizesUptoSaid : Prop := relSizesUptoRow.holds Try.pinned (OpenSpec.upto relSizesSpec)

/-- 'exegesislaw01.RelAll', WHERE WHAT IT READS IS OF BULK AT MOST 1048576: true; the input reads as it did. -/
def relAllUptoRow : OpenClaim := { program := "ytoldeneclhbcbaa", sum := "7a17d50b5245d03dcf693bc537a10c36fb45d32fb8cbf94801fd02e9cc2f9aa0", func := "exegesis/exegesislaw01.RelAll", spec := "relAll", unfollowed := true, recurses := true, apart := false, narrowed := true }
def RelAllUptoSaid : Prop := relAllUptoRow.holds Try.pinned (OpenSpec.upto relAllSpec)

/-- 'exegesislaw06.GraphPo', WHERE WHAT IT READS IS OF BULK AT MOST 1048576: true; the input reads as it did. -/
def graphPoUptoRow : OpenClaim := { program := "ytoldeneclhbcbaa", sum := "7a17d50b5245d03dcf693bc537a10c36fb45d32fb8cbf94801fd02e9cc2f9aa0", func := "exegesis/exegesislaw06.GraphPo", spec := "graphPo", unfollowed := true, recurses := true, apart := false, narrowed := true }
def GraphPoUptoSaid : Prop := graphPoUptoRow.holds Try.pinned (OpenSpec.upto graphPoSpec)

end Rows
end Go.Proofs.Ytoldeneclhbcbaa
