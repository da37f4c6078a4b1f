/-
  No cell of these rows narrows 'for every input' (looked for: loops, veiled, ifaces, maps, wideKeys, modest, calm, conditions, laid).
  DERIVED. THE GIVEN ROWS OF THIS SEAT. 10 by the template 'for every input the law returns true; each argument reads behind the call as it read before'; 0 by the template 'total and deterministic' (their statements: YtgfjjohnfbhjcaaTotals.lean).
  GIVEN WITH THE SEED: the statements are not yours to turn. If you find one false, say at which input.
  Laid BY PROGRAM, IN A SANDBOX (cutbox-rows.mjs): the forced cells as the released guide's own fill.sh prints them over the translation d2e19e32a2c3e370… (all of the seat's roots in one cut). By AI agents, Wed Nov 11 2026. No macro, syntax, notation, axiom, sorry.
-/
import Derived.Test.YtgfjjohnfbhjcaaChecked
import GoSem.Claim
import GoSem.ClaimJoined
import GoSem.ClaimMapViews
import Derived.JoinedTies
import Derived.KernelRfl
namespace Go.Proofs.Ytgfjjohnfbhjcaa
/- THE CELL 'sum', in the pinned program and in every row, IS THE sha256 OF THE DUMP (.gsa) THAT YtgfjjohnfbhjcaaProg.lean LOADS. Nothing in Lean hashes anything: it is a label: what it is worth is what the hold of that sum in a sandbox is worth. -/
noncomputable def Try.pinned : Pinned := { name := "ytgfjjohnfbhjcaa", sum := "d2e19e32a2c3e37023c04d956032ca222d13c87a3eba23e5760c375c368d8d0b", checked := Try.checked }
namespace Rows
def none {H : Type} : Left H := { results := [], args := [] }

/-- 'exegesislaw10.SyncModes': WHATEVER THE INPUT: true; the input reads as it did. -/
def syncModesSpec : ChangeSpec := { name := "syncModes", fn := fun _ => fun
  | [d1, d2] => { results := [.lit (.bool true)], args := [d1, d2] }
  | _ => none }
def syncModesRow : OpenClaim := { program := "ytgfjjohnfbhjcaa", sum := "d2e19e32a2c3e37023c04d956032ca222d13c87a3eba23e5760c375c368d8d0b", func := "exegesis/exegesislaw10.SyncModes", spec := "syncModes", unfollowed := true, recurses := true, apart := false }
def SyncModesSaid : Prop := syncModesRow.holds Try.pinned (OpenSpec.ofChange syncModesSpec)

/-- ITS FALSE NEIGHBOUR: 'it returns false'. Refute it at one input. -/
def syncModesWrong : ChangeSpec := { name := "syncModes", fn := fun _ => fun
  | [d1, d2] => { results := [.lit (.bool false)], args := [d1, d2] }
  | _ => none }
def SyncModesWrongFalsely : Prop := syncModesRow.holds Try.pinned (OpenSpec.ofChange syncModesWrong)

/-- 'exegesislaw10.SyncAny': WHATEVER THE INPUT: true; the input reads as it did. -/
def syncAnySpec : ChangeSpec := { name := "syncAny", fn := fun _ => fun
  | [d] => { results := [.lit (.bool true)], args := [d] }
  | _ => none }
def syncAnyRow : OpenClaim := { program := "ytgfjjohnfbhjcaa", sum := "d2e19e32a2c3e37023c04d956032ca222d13c87a3eba23e5760c375c368d8d0b", func := "exegesis/exegesislaw10.SyncAny", spec := "syncAny", unfollowed := true, recurses := true, apart := false }
def SyncAnySaid : Prop := syncAnyRow.holds Try.pinned (OpenSpec.ofChange syncAnySpec)

/-- ITS FALSE NEIGHBOUR: 'it returns false'. Refute it at one input. -/
def syncAnyWrong : ChangeSpec := { name := "syncAny", fn := fun _ => fun
  | [d] => { results := [.lit (.bool false)], args := [d] }
  | _ => none }
def SyncAnyWrongFalsely : Prop := syncAnyRow.holds Try.pinned (OpenSpec.ofChange syncAnyWrong)

/-- 'exegesislaw06.GraphWrong': WHATEVER THE INPUT: true; the input reads as it did. -/
def graphWrongSpec : ChangeSpec := { name := "graphWrong", fn := fun _ => fun
  | [d1, d2] => { results := [.lit (.bool true)], args := [d1, d2] }
  | _ => none }
def graphWrongRow : OpenClaim := { program := "ytgfjjohnfbhjcaa", sum := "d2e19e32a2c3e37023c04d956032ca222d13c87a3eba23e5760c375c368d8d0b", func := "exegesis/exegesislaw06.GraphWrong", spec := "graphWrong", unfollowed := true, recurses := true, apart := false }
def GraphWrongSaid : Prop := graphWrongRow.holds Try.pinned (OpenSpec.ofChange graphWrongSpec)

/-- ITS FALSE NEIGHBOUR: 'it returns false'. Refute it at one input. -/
def graphWrongWrong : ChangeSpec := { name := "graphWrong", fn := fun _ => fun
  | [d1, d2] => { results := [.lit (.bool false)], args := [d1, d2] }
  | _ => none }
def GraphWrongWrongFalsely : Prop := graphWrongRow.holds Try.pinned (OpenSpec.ofChange graphWrongWrong)

/-- 'exegesislaw06.GraphPo': WHATEVER THE INPUT: true; the input reads as it did. -/
def graphPoSpec : ChangeSpec := { name := "graphPo", fn := fun _ => fun
  | [d1, d2] => { results := [.lit (.bool true)], args := [d1, d2] }
  | _ => none }
def graphPoRow : OpenClaim := { program := "ytgfjjohnfbhjcaa", sum := "d2e19e32a2c3e37023c04d956032ca222d13c87a3eba23e5760c375c368d8d0b", func := "exegesis/exegesislaw06.GraphPo", spec := "graphPo", unfollowed := true, recurses := true, apart := false }
def GraphPoSaid : Prop := graphPoRow.holds Try.pinned (OpenSpec.ofChange graphPoSpec)

/-- ITS FALSE NEIGHBOUR: 'it returns false'. Refute it at one input. -/
def graphPoWrong : ChangeSpec := { name := "graphPo", fn := fun _ => fun
  | [d1, d2] => { results := [.lit (.bool false)], args := [d1, d2] }
  | _ => none }
def GraphPoWrongFalsely : Prop := graphPoRow.holds Try.pinned (OpenSpec.ofChange graphPoWrong)

/-- 'exegesislaw11.OrderBob': WHATEVER THE INPUT: true; the input reads as it did. -/
def orderBobSpec : ChangeSpec := { name := "orderBob", fn := fun _ => fun
  | [d1, d2, d3] => { results := [.lit (.bool true)], args := [d1, d2, d3] }
  | _ => none }
def orderBobRow : OpenClaim := { program := "ytgfjjohnfbhjcaa", sum := "d2e19e32a2c3e37023c04d956032ca222d13c87a3eba23e5760c375c368d8d0b", func := "exegesis/exegesislaw11.OrderBob", spec := "orderBob", unfollowed := true, recurses := true, apart := false }
def OrderBobSaid : Prop := orderBobRow.holds Try.pinned (OpenSpec.ofChange orderBobSpec)

/-- ITS FALSE NEIGHBOUR: 'it returns false'. Refute it at one input. -/
def orderBobWrong : ChangeSpec := { name := "orderBob", fn := fun _ => fun
  | [d1, d2, d3] => { results := [.lit (.bool false)], args := [d1, d2, d3] }
  | _ => none }
def OrderBobWrongFalsely : Prop := orderBobRow.holds Try.pinned (OpenSpec.ofChange orderBobWrong)

/-- 'exegesislaw20.PowerKnown': WHATEVER THE INPUT: true; the input reads as it did. -/
def powerKnownSpec : ChangeSpec := { name := "powerKnown", fn := fun _ => fun
  | [d1, d2] => { results := [.lit (.bool true)], args := [d1, d2] }
  | _ => none }
def powerKnownRow : OpenClaim := { program := "ytgfjjohnfbhjcaa", sum := "d2e19e32a2c3e37023c04d956032ca222d13c87a3eba23e5760c375c368d8d0b", func := "exegesis/exegesislaw20.PowerKnown", spec := "powerKnown", unfollowed := true, recurses := true, apart := false }
def PowerKnownSaid : Prop := powerKnownRow.holds Try.pinned (OpenSpec.ofChange powerKnownSpec)

/-- ITS FALSE NEIGHBOUR: 'it returns false'. Refute it at one input. -/
def powerKnownWrong : ChangeSpec := { name := "powerKnown", fn := fun _ => fun
  | [d1, d2] => { results := [.lit (.bool false)], args := [d1, d2] }
  | _ => none }
def PowerKnownWrongFalsely : Prop := powerKnownRow.holds Try.pinned (OpenSpec.ofChange powerKnownWrong)

/-- 'exegesislaw20.PowerWrites': WHATEVER THE INPUT: true; the input reads as it did. -/
def powerWritesSpec : ChangeSpec := { name := "powerWrites", fn := fun _ => fun
  | [d1, d2, d3] => { results := [.lit (.bool true)], args := [d1, d2, d3] }
  | _ => none }
def powerWritesRow : OpenClaim := { program := "ytgfjjohnfbhjcaa", sum := "d2e19e32a2c3e37023c04d956032ca222d13c87a3eba23e5760c375c368d8d0b", func := "exegesis/exegesislaw20.PowerWrites", spec := "powerWrites", unfollowed := true, recurses := true, apart := false }
def PowerWritesSaid : Prop := powerWritesRow.holds Try.pinned (OpenSpec.ofChange powerWritesSpec)

/-- ITS FALSE NEIGHBOUR: 'it returns false'. Refute it at one input. -/
def powerWritesWrong : ChangeSpec := { name := "powerWrites", fn := fun _ => fun
  | [d1, d2, d3] => { results := [.lit (.bool false)], args := [d1, d2, d3] }
  | _ => none }
def PowerWritesWrongFalsely : Prop := powerWritesRow.holds Try.pinned (OpenSpec.ofChange powerWritesWrong)

/-- 'exegesislaw20.PowerCoherent': WHATEVER THE INPUT: true; the input reads as it did. -/
def powerCoherentSpec : ChangeSpec := { name := "powerCoherent", fn := fun _ => fun
  | [d1, d2, d3] => { results := [.lit (.bool true)], args := [d1, d2, d3] }
  | _ => none }
def powerCoherentRow : OpenClaim := { program := "ytgfjjohnfbhjcaa", sum := "d2e19e32a2c3e37023c04d956032ca222d13c87a3eba23e5760c375c368d8d0b", func := "exegesis/exegesislaw20.PowerCoherent", spec := "powerCoherent", unfollowed := true, recurses := true, apart := false }
def PowerCoherentSaid : Prop := powerCoherentRow.holds Try.pinned (OpenSpec.ofChange powerCoherentSpec)

/-- ITS FALSE NEIGHBOUR: 'it returns false'. Refute it at one input. -/
def powerCoherentWrong : ChangeSpec := { name := "powerCoherent", fn := fun _ => fun
  | [d1, d2, d3] => { results := [.lit (.bool false)], args := [d1, d2, d3] }
  | _ => none }
def PowerCoherentWrongFalsely : Prop := powerCoherentRow.holds Try.pinned (OpenSpec.ofChange powerCoherentWrong)

/-- 'exegesislaw12.ImmKnown': WHATEVER THE INPUT: true; the input reads as it did. -/
def immKnownSpec : ChangeSpec := { name := "immKnown", fn := fun _ => fun
  | [d] => { results := [.lit (.bool true)], args := [d] }
  | _ => none }
def immKnownRow : OpenClaim := { program := "ytgfjjohnfbhjcaa", sum := "d2e19e32a2c3e37023c04d956032ca222d13c87a3eba23e5760c375c368d8d0b", func := "exegesis/exegesislaw12.ImmKnown", spec := "immKnown", unfollowed := true, recurses := true, apart := false }
def ImmKnownSaid : Prop := immKnownRow.holds Try.pinned (OpenSpec.ofChange immKnownSpec)

/-- ITS FALSE NEIGHBOUR: 'it returns false'. Refute it at one input. -/
def immKnownWrong : ChangeSpec := { name := "immKnown", fn := fun _ => fun
  | [d] => { results := [.lit (.bool false)], args := [d] }
  | _ => none }
def ImmKnownWrongFalsely : Prop := immKnownRow.holds Try.pinned (OpenSpec.ofChange immKnownWrong)

/-- 'exegesislaw08.MemLast': WHATEVER THE INPUT: true; the input reads as it did. -/
def memLastSpec : ChangeSpec := { name := "memLast", fn := fun _ => fun
  | [d1, d2] => { results := [.lit (.bool true)], args := [d1, d2] }
  | _ => none }
def memLastRow : OpenClaim := { program := "ytgfjjohnfbhjcaa", sum := "d2e19e32a2c3e37023c04d956032ca222d13c87a3eba23e5760c375c368d8d0b", func := "exegesis/exegesislaw08.MemLast", spec := "memLast", unfollowed := true, recurses := true, apart := false }
def MemLastSaid : Prop := memLastRow.holds Try.pinned (OpenSpec.ofChange memLastSpec)

/-- ITS FALSE NEIGHBOUR: 'it returns false'. Refute it at one input. -/
def memLastWrong : ChangeSpec := { name := "memLast", fn := fun _ => fun
  | [d1, d2] => { results := [.lit (.bool false)], args := [d1, d2] }
  | _ => none }
def MemLastWrongFalsely : Prop := memLastRow.holds Try.pinned (OpenSpec.ofChange memLastWrong)

/- THE SECOND FORM. 'bulk': how many values and letters a reading holds, each counted each time it is reached (what is shared counts as often as it is met; a slice's spare places count too). A statement '..UptoSaid' is the law's where the arguments, and the package variables that the reading takes, are together of bulk at most 1048576: NARROWER than '..Said'. Prove '..Said' where nothing that the law and all that it calls make is longer than what came in: it says more and counts as full. Else prove '..UptoSaid'. A law counts once. -/
mutual
def uptoBulk {H : Type} : DataW H → Nat
  | .lit (.string bytes) => bytes.length + 1
  | .lit _ => 1
  | .nil => 1
  | .ptr d => uptoBulk d + 1
  | .slice elems spare => uptoBulkAll elems + uptoBulkAll spare + 1
  | .agg parts => uptoBulkAll parts + 1
  | .iface _ d => uptoBulk d + 1
  | .map entries => uptoBulkEntries entries + 1
  | .held _ => 1
def uptoBulkAll {H : Type} : List (DataW H) → Nat
  | [] => 0
  | d :: r => uptoBulk d + uptoBulkAll r
def uptoBulkEntries {H : Type} : List (Lit × DataW H) → Nat
  | [] => 0
  | x :: r => uptoBulkEntry x + uptoBulkEntries r
def uptoBulkEntry {H : Type} : Lit × DataW H → Nat
  | (.string bytes, d) => bytes.length + uptoBulk d + 1
  | (_, d) => uptoBulk d + 1
 end
def uptoSmall : (H : Type) → List (DataW H) → Bool := fun _ ds => decide (uptoBulkAll ds ≤ 1048576)
def OpenSpec.upto (s : _root_.Go.ChangeSpec) : _root_.Go.OpenSpec := { _root_.Go.OpenSpec.ofChange s with cond := some uptoSmall }

/-- 'exegesislaw10.SyncModes', WHERE WHAT IT READS IS OF BULK AT MOST 1048576: true; the input reads as it did. -/
def syncModesUptoRow : OpenClaim := { program := "ytgfjjohnfbhjcaa", sum := "d2e19e32a2c3e37023c04d956032ca222d13c87a3eba23e5760c375c368d8d0b", func := "exegesis/exegesislaw10.SyncModes", spec := "syncModes", unfollowed := true, recurses := true, apart := false, narrowed := true }
def SyncModesUptoSaid : Prop := syncModesUptoRow.holds Try.pinned (OpenSpec.upto syncModesSpec)

/-- 'exegesislaw10.SyncAny', WHERE WHAT IT READS IS OF BULK AT MOST 1048576: true; the input reads as it did. -/
def syncAnyUptoRow : OpenClaim := { program := "ytgfjjohnfbhjcaa", sum := "d2e19e32a2c3e37023c04d956032ca222d13c87a3eba23e5760c375c368d8d0b", func := "exegesis/exegesislaw10.SyncAny", spec := "syncAny", unfollowed := true, recurses := true, apart := false, narrowed := true }
def SyncAnyUptoSaid : Prop := syncAnyUptoRow.holds Try.pinned (OpenSpec.upto syncAnySpec)

/-- 'exegesislaw06.GraphWrong', WHERE WHAT IT READS IS OF BULK AT MOST 1048576: true; the input reads as it did. -/
def graphWrongUptoRow : OpenClaim := { program := "ytgfjjohnfbhjcaa", sum := "d2e19e32a2c3e37023c04d956032ca222d13c87a3eba23e5760c375c368d8d0b", func := "exegesis/exegesislaw06.GraphWrong", spec := "graphWrong", unfollowed := true, recurses := true, apart := false, narrowed := true }
def GraphWrongUptoSaid : Prop := graphWrongUptoRow.holds Try.pinned (OpenSpec.upto graphWrongSpec)

/-- 'exegesislaw06.GraphPo', WHERE WHAT IT READS IS OF BULK AT MOST 1048576: true; the input reads as it did. -/
def graphPoUptoRow : OpenClaim := { program := "ytgfjjohnfbhjcaa", sum := "d2e19e32a2c3e37023c04d956032ca222d13c87a3eba23e5760c375c368d8d0b", func := "exegesis/exegesislaw06.GraphPo", spec := "graphPo", unfollowed := true, recurses := true, apart := false, narrowed := true }
def GraphPoUptoSaid : Prop := graphPoUptoRow.holds Try.pinned (OpenSpec.upto graphPoSpec)

/-- 'exegesislaw11.OrderBob', WHERE WHAT IT READS IS OF BULK AT MOST 1048576: true; the input reads as it did. -/
def orderBobUptoRow : OpenClaim := { program := "ytgfjjohnfbhjcaa", sum := "d2e19e32a2c3e37023c04d956032ca222d13c87a3eba23e5760c375c368d8d0b", func := "exegesis/exegesislaw11.OrderBob", spec := "orderBob", unfollowed := true, recurses := true, apart := false, narrowed := true }
def OrderBobUptoSaid : Prop := orderBobUptoRow.holds Try.pinned (OpenSpec.upto orderBobSpec)

/-- 'exegesislaw20.PowerKnown', WHERE WHAT IT READS IS OF BULK AT MOST 1048576: true; the input reads as it did. -/
def powerKnownUptoRow : OpenClaim := { program := "ytgfjjohnfbhjcaa", sum := "d2e19e32a2c3e37023c04d956032ca222d13c87a3eba23e5760c375c368d8d0b", func := "exegesis/exegesislaw20.PowerKnown", spec := "powerKnown", unfollowed := true, recurses := true, apart := false, narrowed := true }
def PowerKnownUptoSaid : Prop := powerKnownUptoRow.holds Try.pinned (OpenSpec.upto powerKnownSpec)

/-- 'exegesislaw20.PowerWrites', WHERE WHAT IT READS IS OF BULK AT MOST 1048576: true; the input reads as it did. -/
def powerWritesUptoRow : OpenClaim := { program := "ytgfjjohnfbhjcaa", sum := "d2e19e32a2c3e37023c04d956032ca222d13c87a3eba23e5760c375c368d8d0b", func := "exegesis/exegesislaw20.PowerWrites", spec := "powerWrites", unfollowed := true, recurses := true, apart := false, narrowed := true }
def PowerWritesUptoSaid : Prop := powerWritesUptoRow.holds Try.pinned (OpenSpec.upto powerWritesSpec)

/-- 'exegesislaw20.PowerCoherent', WHERE WHAT IT READS IS OF BULK AT MOST 1048576: true; the input reads as it did. -/
def powerCoherentUptoRow : OpenClaim := { program := "ytgfjjohnfbhjcaa", sum := "d2e19e32a2c3e37023c04d956032ca222d13c87a3eba23e5760c375c368d8d0b", func := "exegesis/exegesislaw20.PowerCoherent", spec := "powerCoherent", unfollowed := true, recurses := true, apart := false, narrowed := true }
def PowerCoherentUptoSaid : Prop := powerCoherentUptoRow.holds Try.pinned (OpenSpec.upto powerCoherentSpec)

/-- 'exegesislaw12.ImmKnown', WHERE WHAT IT READS IS OF BULK AT MOST 1048576: true; the input reads as it did. -/
def immKnownUptoRow : OpenClaim := { program := "ytgfjjohnfbhjcaa", sum := "d2e19e32a2c3e37023c04d956032ca222d13c87a3eba23e5760c375c368d8d0b", func := "exegesis/exegesislaw12.ImmKnown", spec := "immKnown", unfollowed := true, recurses := true, apart := false, narrowed := true }
def ImmKnownUptoSaid : Prop := immKnownUptoRow.holds Try.pinned (OpenSpec.upto immKnownSpec)

/-- 'exegesislaw08.MemLast', WHERE WHAT IT READS IS OF BULK AT MOST 1048576: true; the input reads as it did. -/
def memLastUptoRow : OpenClaim := { program := "ytgfjjohnfbhjcaa", sum := "d2e19e32a2c3e37023c04d956032ca222d13c87a3eba23e5760c375c368d8d0b", func := "exegesis/exegesislaw08.MemLast", spec := "memLast", unfollowed := true, recurses := true, apart := false, narrowed := true }
def MemLastUptoSaid : Prop := memLastUptoRow.holds Try.pinned (OpenSpec.upto memLastSpec)

end Rows
end Go.Proofs.Ytgfjjohnfbhjcaa
