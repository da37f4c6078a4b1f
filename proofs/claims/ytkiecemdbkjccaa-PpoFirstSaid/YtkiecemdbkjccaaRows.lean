/-
  No cell of these rows narrows 'for every input' (looked for: loops, veiled, ifaces, maps, wideKeys, modest, calm, conditions, laid).
  DERIVED. THE GIVEN ROWS OF THIS SEAT. 10 by the template 'for every input the law returns true; each argument reads behind the call as it read before'; 0 by the template 'total and deterministic' (their statements: YtkiecemdbkjccaaTotals.lean).
  GIVEN WITH THE SEED: the statements are not yours to turn. If you find one false, say at which input.
  Laid BY PROGRAM, IN A SANDBOX (cutbox-rows.mjs): the forced cells as the released guide's own fill.sh prints them over the translation 7d35f4432a6b1b04… (all of the seat's roots in one cut). By AI agents, Wed Nov 11 2026. No macro, syntax, notation, axiom, sorry.
-/
import Derived.Test.YtkiecemdbkjccaaChecked
import GoSem.Claim
import GoSem.ClaimJoined
import GoSem.ClaimMapViews
import Derived.JoinedTies
import Derived.KernelRfl
namespace Go.Proofs.Ytkiecemdbkjccaa
/- THE CELL 'sum', in the pinned program and in every row, IS THE sha256 OF THE DUMP (.gsa) THAT YtkiecemdbkjccaaProg.lean LOADS. Nothing in Lean hashes anything: it is a label: what it is worth is what the hold of that sum in a sandbox is worth. -/
noncomputable def Try.pinned : Pinned := { name := "ytkiecemdbkjccaa", sum := "7d35f4432a6b1b04d672e0334cb77a6babb436bd0cf78c9c3adf2a94f08fbda1", checked := Try.checked }
namespace Rows
def none {H : Type} : Left H := { results := [], args := [] }

/-- 'exegesislaw19.PpoKnown': WHATEVER THE INPUT: true; the input reads as it did. -/
def ppoKnownSpec : ChangeSpec := { name := "ppoKnown", fn := fun _ => fun
  | [d1, d2] => { results := [.lit (.bool true)], args := [d1, d2] }
  | _ => none }
def ppoKnownRow : OpenClaim := { program := "ytkiecemdbkjccaa", sum := "7d35f4432a6b1b04d672e0334cb77a6babb436bd0cf78c9c3adf2a94f08fbda1", func := "exegesis/exegesislaw19.PpoKnown", spec := "ppoKnown", unfollowed := true, recurses := true, apart := false }
def PpoKnownSaid : Prop := ppoKnownRow.holds Try.pinned (OpenSpec.ofChange ppoKnownSpec)

/-- ITS FALSE NEIGHBOUR: 'it returns false'. Refute it at one input. -/
def ppoKnownWrong : ChangeSpec := { name := "ppoKnown", fn := fun _ => fun
  | [d1, d2] => { results := [.lit (.bool false)], args := [d1, d2] }
  | _ => none }
def PpoKnownWrongFalsely : Prop := ppoKnownRow.holds Try.pinned (OpenSpec.ofChange ppoKnownWrong)

/-- 'exegesislaw19.PpoFirst': WHATEVER THE INPUT: true; the input reads as it did. -/
def ppoFirstSpec : ChangeSpec := { name := "ppoFirst", fn := fun _ => fun
  | [d] => { results := [.lit (.bool true)], args := [d] }
  | _ => none }
def ppoFirstRow : OpenClaim := { program := "ytkiecemdbkjccaa", sum := "7d35f4432a6b1b04d672e0334cb77a6babb436bd0cf78c9c3adf2a94f08fbda1", func := "exegesis/exegesislaw19.PpoFirst", spec := "ppoFirst", unfollowed := true, recurses := true, apart := false }
def PpoFirstSaid : Prop := ppoFirstRow.holds Try.pinned (OpenSpec.ofChange ppoFirstSpec)

/-- ITS FALSE NEIGHBOUR: 'it returns false'. Refute it at one input. -/
def ppoFirstWrong : ChangeSpec := { name := "ppoFirst", fn := fun _ => fun
  | [d] => { results := [.lit (.bool false)], args := [d] }
  | _ => none }
def PpoFirstWrongFalsely : Prop := ppoFirstRow.holds Try.pinned (OpenSpec.ofChange ppoFirstWrong)

/-- 'exegesislaw19.PpoAny': WHATEVER THE INPUT: true; the input reads as it did. -/
def ppoAnySpec : ChangeSpec := { name := "ppoAny", fn := fun _ => fun
  | [d] => { results := [.lit (.bool true)], args := [d] }
  | _ => none }
def ppoAnyRow : OpenClaim := { program := "ytkiecemdbkjccaa", sum := "7d35f4432a6b1b04d672e0334cb77a6babb436bd0cf78c9c3adf2a94f08fbda1", func := "exegesis/exegesislaw19.PpoAny", spec := "ppoAny", unfollowed := true, recurses := true, apart := false }
def PpoAnySaid : Prop := ppoAnyRow.holds Try.pinned (OpenSpec.ofChange ppoAnySpec)

/-- ITS FALSE NEIGHBOUR: 'it returns false'. Refute it at one input. -/
def ppoAnyWrong : ChangeSpec := { name := "ppoAny", fn := fun _ => fun
  | [d] => { results := [.lit (.bool false)], args := [d] }
  | _ => none }
def PpoAnyWrongFalsely : Prop := ppoAnyRow.holds Try.pinned (OpenSpec.ofChange ppoAnyWrong)

/-- 'exegesislaw10.SyncModes': WHATEVER THE INPUT: true; the input reads as it did. -/
def syncModesSpec : ChangeSpec := { name := "syncModes", fn := fun _ => fun
  | [d1, d2] => { results := [.lit (.bool true)], args := [d1, d2] }
  | _ => none }
def syncModesRow : OpenClaim := { program := "ytkiecemdbkjccaa", sum := "7d35f4432a6b1b04d672e0334cb77a6babb436bd0cf78c9c3adf2a94f08fbda1", func := "exegesis/exegesislaw10.SyncModes", spec := "syncModes", unfollowed := true, recurses := true, apart := false }
def SyncModesSaid : Prop := syncModesRow.holds Try.pinned (OpenSpec.ofChange syncModesSpec)

/-- ITS FALSE NEIGHBOUR: 'it returns false'. Refute it at one input. -/
def syncModesWrong : ChangeSpec := { name := "syncModes", fn := fun _ => fun
  | [d1, d2] => { results := [.lit (.bool false)], args := [d1, d2] }
  | _ => none }
def SyncModesWrongFalsely : Prop := syncModesRow.holds Try.pinned (OpenSpec.ofChange syncModesWrong)

/-- 'exegesislaw10.SyncAny': WHATEVER THE INPUT: true; the input reads as it did. -/
def syncAnySpec : ChangeSpec := { name := "syncAny", fn := fun _ => fun
  | [d] => { results := [.lit (.bool true)], args := [d] }
  | _ => none }
def syncAnyRow : OpenClaim := { program := "ytkiecemdbkjccaa", sum := "7d35f4432a6b1b04d672e0334cb77a6babb436bd0cf78c9c3adf2a94f08fbda1", func := "exegesis/exegesislaw10.SyncAny", spec := "syncAny", unfollowed := true, recurses := true, apart := false }
def SyncAnySaid : Prop := syncAnyRow.holds Try.pinned (OpenSpec.ofChange syncAnySpec)

/-- ITS FALSE NEIGHBOUR: 'it returns false'. Refute it at one input. -/
def syncAnyWrong : ChangeSpec := { name := "syncAny", fn := fun _ => fun
  | [d] => { results := [.lit (.bool false)], args := [d] }
  | _ => none }
def SyncAnyWrongFalsely : Prop := syncAnyRow.holds Try.pinned (OpenSpec.ofChange syncAnyWrong)

/-- 'exegesislaw06.GraphWrong': WHATEVER THE INPUT: true; the input reads as it did. -/
def graphWrongSpec : ChangeSpec := { name := "graphWrong", fn := fun _ => fun
  | [d1, d2] => { results := [.lit (.bool true)], args := [d1, d2] }
  | _ => none }
def graphWrongRow : OpenClaim := { program := "ytkiecemdbkjccaa", sum := "7d35f4432a6b1b04d672e0334cb77a6babb436bd0cf78c9c3adf2a94f08fbda1", func := "exegesis/exegesislaw06.GraphWrong", spec := "graphWrong", unfollowed := true, recurses := true, apart := false }
def GraphWrongSaid : Prop := graphWrongRow.holds Try.pinned (OpenSpec.ofChange graphWrongSpec)

/-- ITS FALSE NEIGHBOUR: 'it returns false'. Refute it at one input. -/
def graphWrongWrong : ChangeSpec := { name := "graphWrong", fn := fun _ => fun
  | [d1, d2] => { results := [.lit (.bool false)], args := [d1, d2] }
  | _ => none }
def GraphWrongWrongFalsely : Prop := graphWrongRow.holds Try.pinned (OpenSpec.ofChange graphWrongWrong)

/-- 'exegesislaw06.GraphPo': WHATEVER THE INPUT: true; the input reads as it did. -/
def graphPoSpec : ChangeSpec := { name := "graphPo", fn := fun _ => fun
  | [d1, d2] => { results := [.lit (.bool true)], args := [d1, d2] }
  | _ => none }
def graphPoRow : OpenClaim := { program := "ytkiecemdbkjccaa", sum := "7d35f4432a6b1b04d672e0334cb77a6babb436bd0cf78c9c3adf2a94f08fbda1", func := "exegesis/exegesislaw06.GraphPo", spec := "graphPo", unfollowed := true, recurses := true, apart := false }
def GraphPoSaid : Prop := graphPoRow.holds Try.pinned (OpenSpec.ofChange graphPoSpec)

/-- ITS FALSE NEIGHBOUR: 'it returns false'. Refute it at one input. -/
def graphPoWrong : ChangeSpec := { name := "graphPo", fn := fun _ => fun
  | [d1, d2] => { results := [.lit (.bool false)], args := [d1, d2] }
  | _ => none }
def GraphPoWrongFalsely : Prop := graphPoRow.holds Try.pinned (OpenSpec.ofChange graphPoWrong)

/-- 'exegesislaw11.OrderBob': WHATEVER THE INPUT: true; the input reads as it did. -/
def orderBobSpec : ChangeSpec := { name := "orderBob", fn := fun _ => fun
  | [d1, d2, d3] => { results := [.lit (.bool true)], args := [d1, d2, d3] }
  | _ => none }
def orderBobRow : OpenClaim := { program := "ytkiecemdbkjccaa", sum := "7d35f4432a6b1b04d672e0334cb77a6babb436bd0cf78c9c3adf2a94f08fbda1", func := "exegesis/exegesislaw11.OrderBob", spec := "orderBob", unfollowed := true, recurses := true, apart := false }
def OrderBobSaid : Prop := orderBobRow.holds Try.pinned (OpenSpec.ofChange orderBobSpec)

/-- ITS FALSE NEIGHBOUR: 'it returns false'. Refute it at one input. -/
def orderBobWrong : ChangeSpec := { name := "orderBob", fn := fun _ => fun
  | [d1, d2, d3] => { results := [.lit (.bool false)], args := [d1, d2, d3] }
  | _ => none }
def OrderBobWrongFalsely : Prop := orderBobRow.holds Try.pinned (OpenSpec.ofChange orderBobWrong)

/-- 'exegesislaw12.ImmKnown': WHATEVER THE INPUT: true; the input reads as it did. -/
def immKnownSpec : ChangeSpec := { name := "immKnown", fn := fun _ => fun
  | [d] => { results := [.lit (.bool true)], args := [d] }
  | _ => none }
def immKnownRow : OpenClaim := { program := "ytkiecemdbkjccaa", sum := "7d35f4432a6b1b04d672e0334cb77a6babb436bd0cf78c9c3adf2a94f08fbda1", func := "exegesis/exegesislaw12.ImmKnown", spec := "immKnown", unfollowed := true, recurses := true, apart := false }
def ImmKnownSaid : Prop := immKnownRow.holds Try.pinned (OpenSpec.ofChange immKnownSpec)

/-- ITS FALSE NEIGHBOUR: 'it returns false'. Refute it at one input. -/
def immKnownWrong : ChangeSpec := { name := "immKnown", fn := fun _ => fun
  | [d] => { results := [.lit (.bool false)], args := [d] }
  | _ => none }
def ImmKnownWrongFalsely : Prop := immKnownRow.holds Try.pinned (OpenSpec.ofChange immKnownWrong)

/-- 'exegesislaw12.ImmFences': WHATEVER THE INPUT: true; the input reads as it did. -/
def immFencesSpec : ChangeSpec := { name := "immFences", fn := fun _ => fun
  | [d1, d2] => { results := [.lit (.bool true)], args := [d1, d2] }
  | _ => none }
def immFencesRow : OpenClaim := { program := "ytkiecemdbkjccaa", sum := "7d35f4432a6b1b04d672e0334cb77a6babb436bd0cf78c9c3adf2a94f08fbda1", func := "exegesis/exegesislaw12.ImmFences", spec := "immFences", unfollowed := true, recurses := true, apart := false }
def ImmFencesSaid : Prop := immFencesRow.holds Try.pinned (OpenSpec.ofChange immFencesSpec)

/-- ITS FALSE NEIGHBOUR: 'it returns false'. Refute it at one input. -/
def immFencesWrong : ChangeSpec := { name := "immFences", fn := fun _ => fun
  | [d1, d2] => { results := [.lit (.bool false)], args := [d1, d2] }
  | _ => none }
def ImmFencesWrongFalsely : Prop := immFencesRow.holds Try.pinned (OpenSpec.ofChange immFencesWrong)

/- THE SECOND FORM. 'bulk': how many values and letters a reading holds, each counted each time it is reached (what is shared counts as often as it is met; a slice's spare places count too). A statement '..UptoSaid' is the law's where the arguments, and the package variables that the reading takes, are together of bulk at most 1048576: NARROWER than '..Said'. Prove '..Said' where nothing that the law and all that it calls make is longer than what came in: it says more and counts as full. Else prove '..UptoSaid'. A law counts once. -/
mutual
def uptoBulk {H : Type} : DataW H → Nat
  | .lit (.string bytes) => bytes.length + 1
  | .lit _ => 1
  | .nil => 1
  | .ptr d => uptoBulk d + 1
  | .slice elems spare => uptoBulkAll elems + uptoBulkAll spare + 1
  | .agg parts => uptoBulkAll parts + 1
  | .iface _ d => uptoBulk d + 1
  | .map entries => uptoBulkEntries entries + 1
  | .held _ => 1
def uptoBulkAll {H : Type} : List (DataW H) → Nat
  | [] => 0
  | d :: r => uptoBulk d + uptoBulkAll r
def uptoBulkEntries {H : Type} : List (Lit × DataW H) → Nat
  | [] => 0
  | x :: r => uptoBulkEntry x + uptoBulkEntries r
def uptoBulkEntry {H : Type} : Lit × DataW H → Nat
  | (.string bytes, d) => bytes.length + uptoBulk d + 1
  | (_, d) => uptoBulk d + 1
 end
def uptoSmall : (H : Type) → List (DataW H) → Bool := fun _ ds => decide (uptoBulkAll ds ≤ 1048576)
def OpenSpec.upto (s : _root_.Go.ChangeSpec) : _root_.Go.OpenSpec := { _root_.Go.OpenSpec.ofChange s with cond := some uptoSmall }

/-- 'exegesislaw19.PpoKnown', WHERE WHAT IT READS IS OF BULK AT MOST 1048576: true; the input reads as it did. -/
def ppoKnownUptoRow : OpenClaim := { program := "ytkiecemdbkjccaa", sum := "7d35f4432a6b1b04d672e0334cb77a6babb436bd0cf78c9c3adf2a94f08fbda1", func := "exegesis/exegesislaw19.PpoKnown", spec := "ppoKnown", unfollowed := true, recurses := true, apart := false, narrowed := true }
def PpoKnownUptoSaid : Prop := ppoKnownUptoRow.holds Try.pinned (OpenSpec.upto ppoKnownSpec)

/-- 'exegesislaw19.PpoFirst', WHERE WHAT IT READS IS OF BULK AT MOST 1048576: true; the input reads as it did. -/
def ppoFirstUptoRow : OpenClaim := { program := "ytkiecemdbkjccaa", sum := "7d35f4432a6b1b04d672e0334cb77a6babb436bd0cf78c9c3adf2a94f08fbda1", func := "exegesis/exegesislaw19.PpoFirst", spec := "ppoFirst", unfollowed := true, recurses := true, apart := false, narrowed := true }
def PpoFirstUptoSaid : Prop := ppoFirstUptoRow.holds Try.pinned (OpenSpec.upto ppoFirstSpec)

/-- 'exegesislaw19.PpoAny', WHERE WHAT IT READS IS OF BULK AT MOST 1048576: true; the input reads as it did. -/
def ppoAnyUptoRow : OpenClaim := { program := "ytkiecemdbkjccaa", sum := "7d35f4432a6b1b04d672e0334cb77a6babb436bd0cf78c9c3adf2a94f08fbda1", func := "exegesis/exegesislaw19.PpoAny", spec := "ppoAny", unfollowed := true, recurses := true, apart := false, narrowed := true }
def PpoAnyUptoSaid : Prop := ppoAnyUptoRow.holds Try.pinned (OpenSpec.upto ppoAnySpec)

/-- 'exegesislaw10.SyncModes', WHERE WHAT IT READS IS OF BULK AT MOST 1048576: true; the input reads as it did. -/
def syncModesUptoRow : OpenClaim := { program := "ytkiecemdbkjccaa", sum := "7d35f4432a6b1b04d672e0334cb77a6babb436bd0cf78c9c3adf2a94f08fbda1", func := "exegesis/exegesislaw10.SyncModes", spec := "syncModes", unfollowed := true, recurses := true, apart := false, narrowed := true }
def SyncModesUptoSaid : Prop := syncModesUptoRow.holds Try.pinned (OpenSpec.upto syncModesSpec)

/-- 'exegesislaw10.SyncAny', WHERE WHAT IT READS IS OF BULK AT MOST 1048576: true; the input reads as it did. -/
def syncAnyUptoRow : OpenClaim := { program := "ytkiecemdbkjccaa", sum := "7d35f4432a6b1b04d672e0334cb77a6babb436bd0cf78c9c3adf2a94f08fbda1", func := "exegesis/exegesislaw10.SyncAny", spec := "syncAny", unfollowed := true, recurses := true, apart := false, narrowed := true }
def SyncAnyUptoSaid : Prop := syncAnyUptoRow.holds Try.pinned (OpenSpec.upto syncAnySpec)

/-- 'exegesislaw06.GraphWrong', WHERE WHAT IT READS IS OF BULK AT MOST 1048576: true; the input reads as it did. -/
def graphWrongUptoRow : OpenClaim := { program := "ytkiecemdbkjccaa", sum := "7d35f4432a6b1b04d672e0334cb77a6babb436bd0cf78c9c3adf2a94f08fbda1", func := "exegesis/exegesislaw06.GraphWrong", spec := "graphWrong", unfollowed := true, recurses := true, apart := false, narrowed := true }
def GraphWrongUptoSaid : Prop := graphWrongUptoRow.holds Try.pinned (OpenSpec.upto graphWrongSpec)

/-- 'exegesislaw06.GraphPo', WHERE WHAT IT READS IS OF BULK AT MOST 1048576: true; the input reads as it did. -/
def graphPoUptoRow : OpenClaim := { program := "ytkiecemdbkjccaa", sum := "7d35f4432a6b1b04d672e0334cb77a6babb436bd0cf78c9c3adf2a94f08fbda1", func := "exegesis/exegesislaw06.GraphPo", spec := "graphPo", unfollowed := true, recurses := true, apart := false, narrowed := true }
def GraphPoUptoSaid : Prop := graphPoUptoRow.holds Try.pinned (OpenSpec.upto graphPoSpec)

/-- 'exegesislaw11.OrderBob', WHERE WHAT IT READS IS OF BULK AT MOST 1048576: true; the input reads as it did. -/
def orderBobUptoRow : OpenClaim := { program := "ytkiecemdbkjccaa", sum := "7d35f4432a6b1b04d672e0334cb77a6babb436bd0cf78c9c3adf2a94f08fbda1", func := "exegesis/exegesislaw11.OrderBob", spec := "orderBob", unfollowed := true, recurses := true, apart := false, narrowed := true }
def OrderBobUptoSaid : Prop := orderBobUptoRow.holds Try.pinned (OpenSpec.upto orderBobSpec)

/-- 'exegesislaw12.ImmKnown', WHERE WHAT IT READS IS OF BULK AT MOST 1048576: true; the input reads as it did. -/
def immKnownUptoRow : OpenClaim := { program := "ytkiecemdbkjccaa", sum := "7d35f4432a6b1b04d672e0334cb77a6babb436bd0cf78c9c3adf2a94f08fbda1", func := "exegesis/exegesislaw12.ImmKnown", spec := "immKnown", unfollowed := true, recurses := true, apart := false, narrowed := true }
def ImmKnownUptoSaid : Prop := immKnownUptoRow.holds Try.pinned (OpenSpec.upto immKnownSpec)

/-- 'exegesislaw12.ImmFences', WHERE WHAT IT READS IS OF BULK AT MOST 1048576: true; the input reads as it did. -/
def immFencesUptoRow : OpenClaim := { program := "ytkiecemdbkjccaa", sum := "7d35f4432a6b1b04d672e0334cb77a6babb436bd0cf78c9c3adf2a94f08fbda1", func := "exegesis/exegesislaw12.ImmFences", spec := "immFences", unfollowed := true, recurses := true, apart := false, narrowed := true }
def ImmFencesUptoSaid : Prop := immFencesUptoRow.holds Try.pinned (OpenSpec.upto immFencesSpec)

end Rows
end Go.Proofs.Ytkiecemdbkjccaa
