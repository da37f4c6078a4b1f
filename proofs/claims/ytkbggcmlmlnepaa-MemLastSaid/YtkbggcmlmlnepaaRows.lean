/-
  No cell of these rows narrows 'for every input' (looked for: loops, veiled, ifaces, maps, wideKeys, modest, calm, conditions, laid).
  DERIVED. THE GIVEN ROWS OF THIS SEAT. 9 by the template 'for every input the law returns true; each argument reads behind the call as it read before'; 0 by the template 'total and deterministic' (their statements: YtkbggcmlmlnepaaTotals.lean).
  GIVEN WITH THE SEED: the statements are not yours to turn. If you find one false, say at which input.
  Laid BY PROGRAM, IN A SANDBOX (cutbox-rows.mjs): the forced cells as the released guide's own fill.sh prints them over the translation 50a75621acef085b… (all of the seat's roots in one cut). By AI agents, Wed Nov 11 2026. No macro, syntax, notation, axiom, sorry.
-/
import Derived.Test.YtkbggcmlmlnepaaChecked
import GoSem.Claim
import GoSem.ClaimJoined
import GoSem.ClaimMapViews
import Derived.JoinedTies
import Derived.KernelRfl
namespace Go.Proofs.Ytkbggcmlmlnepaa
/- THE CELL 'sum', in the pinned program and in every row, IS THE sha256 OF THE DUMP (.gsa) THAT YtkbggcmlmlnepaaProg.lean LOADS. Nothing in Lean hashes anything: it is a label: what it is worth is what the hold of that sum in a sandbox is worth. -/
noncomputable def Try.pinned : Pinned := { name := "ytkbggcmlmlnepaa", sum := "50a75621acef085b0b4fd0492fb59cfa9a9d1ed0bfea3f2daccac06d838a612b", checked := Try.checked }
namespace Rows
def none {H : Type} : Left H := { results := [], args := [] }

/-- 'exegesislaw20.PowerKnown': WHATEVER THE INPUT: true; the input reads as it did. -/
def powerKnownSpec : ChangeSpec := { name := "powerKnown", fn := fun _ => fun
  | [d1, d2] => { results := [.lit (.bool true)], args := [d1, d2] }
  | _ => none }
def powerKnownRow : OpenClaim := { program := "ytkbggcmlmlnepaa", sum := "50a75621acef085b0b4fd0492fb59cfa9a9d1ed0bfea3f2daccac06d838a612b", func := "exegesis/exegesislaw20.PowerKnown", spec := "powerKnown", unfollowed := true, recurses := true, apart := false }
def PowerKnownSaid : Prop := powerKnownRow.holds Try.pinned (OpenSpec.ofChange powerKnownSpec)

/-- ITS FALSE NEIGHBOUR: 'it returns false'. Refute it at one input. -/
def powerKnownWrong : ChangeSpec := { name := "powerKnown", fn := fun _ => fun
  | [d1, d2] => { results := [.lit (.bool false)], args := [d1, d2] }
  | _ => none }
def PowerKnownWrongFalsely : Prop := powerKnownRow.holds Try.pinned (OpenSpec.ofChange powerKnownWrong)

/-- 'exegesislaw20.PowerWrites': WHATEVER THE INPUT: true; the input reads as it did. -/
def powerWritesSpec : ChangeSpec := { name := "powerWrites", fn := fun _ => fun
  | [d1, d2, d3] => { results := [.lit (.bool true)], args := [d1, d2, d3] }
  | _ => none }
def powerWritesRow : OpenClaim := { program := "ytkbggcmlmlnepaa", sum := "50a75621acef085b0b4fd0492fb59cfa9a9d1ed0bfea3f2daccac06d838a612b", func := "exegesis/exegesislaw20.PowerWrites", spec := "powerWrites", unfollowed := true, recurses := true, apart := false }
def PowerWritesSaid : Prop := powerWritesRow.holds Try.pinned (OpenSpec.ofChange powerWritesSpec)

/-- ITS FALSE NEIGHBOUR: 'it returns false'. Refute it at one input. -/
def powerWritesWrong : ChangeSpec := { name := "powerWrites", fn := fun _ => fun
  | [d1, d2, d3] => { results := [.lit (.bool false)], args := [d1, d2, d3] }
  | _ => none }
def PowerWritesWrongFalsely : Prop := powerWritesRow.holds Try.pinned (OpenSpec.ofChange powerWritesWrong)

/-- 'exegesislaw20.PowerCoherent': WHATEVER THE INPUT: true; the input reads as it did. -/
def powerCoherentSpec : ChangeSpec := { name := "powerCoherent", fn := fun _ => fun
  | [d1, d2, d3] => { results := [.lit (.bool true)], args := [d1, d2, d3] }
  | _ => none }
def powerCoherentRow : OpenClaim := { program := "ytkbggcmlmlnepaa", sum := "50a75621acef085b0b4fd0492fb59cfa9a9d1ed0bfea3f2daccac06d838a612b", func := "exegesis/exegesislaw20.PowerCoherent", spec := "powerCoherent", unfollowed := true, recurses := true, apart := false }
def PowerCoherentSaid : Prop := powerCoherentRow.holds Try.pinned (OpenSpec.ofChange powerCoherentSpec)

/-- ITS FALSE NEIGHBOUR: 'it returns false'. Refute it at one input. -/
def powerCoherentWrong : ChangeSpec := { name := "powerCoherent", fn := fun _ => fun
  | [d1, d2, d3] => { results := [.lit (.bool false)], args := [d1, d2, d3] }
  | _ => none }
def PowerCoherentWrongFalsely : Prop := powerCoherentRow.holds Try.pinned (OpenSpec.ofChange powerCoherentWrong)

/-- 'exegesislaw08.MemLast': WHATEVER THE INPUT: true; the input reads as it did. -/
def memLastSpec : ChangeSpec := { name := "memLast", fn := fun _ => fun
  | [d1, d2] => { results := [.lit (.bool true)], args := [d1, d2] }
  | _ => none }
def memLastRow : OpenClaim := { program := "ytkbggcmlmlnepaa", sum := "50a75621acef085b0b4fd0492fb59cfa9a9d1ed0bfea3f2daccac06d838a612b", func := "exegesis/exegesislaw08.MemLast", spec := "memLast", unfollowed := true, recurses := true, apart := false }
def MemLastSaid : Prop := memLastRow.holds Try.pinned (OpenSpec.ofChange memLastSpec)

/-- ITS FALSE NEIGHBOUR: 'it returns false'. Refute it at one input. -/
def memLastWrong : ChangeSpec := { name := "memLast", fn := fun _ => fun
  | [d1, d2] => { results := [.lit (.bool false)], args := [d1, d2] }
  | _ => none }
def MemLastWrongFalsely : Prop := memLastRow.holds Try.pinned (OpenSpec.ofChange memLastWrong)

/-- 'exegesislaw04.SoundBounds': WHATEVER THE INPUT: true; the input reads as it did. -/
def soundBoundsSpec : ChangeSpec := { name := "soundBounds", fn := fun _ => fun
  | [d1, d2] => { results := [.lit (.bool true)], args := [d1, d2] }
  | _ => none }
def soundBoundsRow : OpenClaim := { program := "ytkbggcmlmlnepaa", sum := "50a75621acef085b0b4fd0492fb59cfa9a9d1ed0bfea3f2daccac06d838a612b", func := "exegesis/exegesislaw04.SoundBounds", spec := "soundBounds", unfollowed := true, recurses := true, apart := false }
def SoundBoundsSaid : Prop := soundBoundsRow.holds Try.pinned (OpenSpec.ofChange soundBoundsSpec)

/-- ITS FALSE NEIGHBOUR: 'it returns false'. Refute it at one input. -/
def soundBoundsWrong : ChangeSpec := { name := "soundBounds", fn := fun _ => fun
  | [d1, d2] => { results := [.lit (.bool false)], args := [d1, d2] }
  | _ => none }
def SoundBoundsWrongFalsely : Prop := soundBoundsRow.holds Try.pinned (OpenSpec.ofChange soundBoundsWrong)

/-- 'exegesislaw04.SoundWrong': WHATEVER THE INPUT: true; the input reads as it did. -/
def soundWrongSpec : ChangeSpec := { name := "soundWrong", fn := fun _ => fun
  | [d1, d2] => { results := [.lit (.bool true)], args := [d1, d2] }
  | _ => none }
def soundWrongRow : OpenClaim := { program := "ytkbggcmlmlnepaa", sum := "50a75621acef085b0b4fd0492fb59cfa9a9d1ed0bfea3f2daccac06d838a612b", func := "exegesis/exegesislaw04.SoundWrong", spec := "soundWrong", unfollowed := true, recurses := true, apart := false }
def SoundWrongSaid : Prop := soundWrongRow.holds Try.pinned (OpenSpec.ofChange soundWrongSpec)

/-- ITS FALSE NEIGHBOUR: 'it returns false'. Refute it at one input. -/
def soundWrongWrong : ChangeSpec := { name := "soundWrong", fn := fun _ => fun
  | [d1, d2] => { results := [.lit (.bool false)], args := [d1, d2] }
  | _ => none }
def SoundWrongWrongFalsely : Prop := soundWrongRow.holds Try.pinned (OpenSpec.ofChange soundWrongWrong)

/-- 'exegesislaw24.RulesKnown': WHATEVER THE INPUT: true; the input reads as it did. -/
def rulesKnownSpec : ChangeSpec := { name := "rulesKnown", fn := fun _ => fun
  | [d] => { results := [.lit (.bool true)], args := [d] }
  | _ => none }
def rulesKnownRow : OpenClaim := { program := "ytkbggcmlmlnepaa", sum := "50a75621acef085b0b4fd0492fb59cfa9a9d1ed0bfea3f2daccac06d838a612b", func := "exegesis/exegesislaw24.RulesKnown", spec := "rulesKnown", unfollowed := true, recurses := true, apart := false }
def RulesKnownSaid : Prop := rulesKnownRow.holds Try.pinned (OpenSpec.ofChange rulesKnownSpec)

/-- ITS FALSE NEIGHBOUR: 'it returns false'. Refute it at one input. -/
def rulesKnownWrong : ChangeSpec := { name := "rulesKnown", fn := fun _ => fun
  | [d] => { results := [.lit (.bool false)], args := [d] }
  | _ => none }
def RulesKnownWrongFalsely : Prop := rulesKnownRow.holds Try.pinned (OpenSpec.ofChange rulesKnownWrong)

/-- 'exegesislaw24.RulesTargets': WHATEVER THE INPUT: true; the input reads as it did. -/
def rulesTargetsSpec : ChangeSpec := { name := "rulesTargets", fn := fun _ => fun
  | [d1, d2, d3] => { results := [.lit (.bool true)], args := [d1, d2, d3] }
  | _ => none }
def rulesTargetsRow : OpenClaim := { program := "ytkbggcmlmlnepaa", sum := "50a75621acef085b0b4fd0492fb59cfa9a9d1ed0bfea3f2daccac06d838a612b", func := "exegesis/exegesislaw24.RulesTargets", spec := "rulesTargets", unfollowed := true, recurses := true, apart := false }
def RulesTargetsSaid : Prop := rulesTargetsRow.holds Try.pinned (OpenSpec.ofChange rulesTargetsSpec)

/-- ITS FALSE NEIGHBOUR: 'it returns false'. Refute it at one input. -/
def rulesTargetsWrong : ChangeSpec := { name := "rulesTargets", fn := fun _ => fun
  | [d1, d2, d3] => { results := [.lit (.bool false)], args := [d1, d2, d3] }
  | _ => none }
def RulesTargetsWrongFalsely : Prop := rulesTargetsRow.holds Try.pinned (OpenSpec.ofChange rulesTargetsWrong)

/-- 'exegesislaw24.RulesModes': WHATEVER THE INPUT: true; the input reads as it did. -/
def rulesModesSpec : ChangeSpec := { name := "rulesModes", fn := fun _ => fun
  | [d1, d2] => { results := [.lit (.bool true)], args := [d1, d2] }
  | _ => none }
def rulesModesRow : OpenClaim := { program := "ytkbggcmlmlnepaa", sum := "50a75621acef085b0b4fd0492fb59cfa9a9d1ed0bfea3f2daccac06d838a612b", func := "exegesis/exegesislaw24.RulesModes", spec := "rulesModes", unfollowed := true, recurses := true, apart := false }
def RulesModesSaid : Prop := rulesModesRow.holds Try.pinned (OpenSpec.ofChange rulesModesSpec)

/-- ITS FALSE NEIGHBOUR: 'it returns false'. Refute it at one input. -/
def rulesModesWrong : ChangeSpec := { name := "rulesModes", fn := fun _ => fun
  | [d1, d2] => { results := [.lit (.bool false)], args := [d1, d2] }
  | _ => none }
def RulesModesWrongFalsely : Prop := rulesModesRow.holds Try.pinned (OpenSpec.ofChange rulesModesWrong)

/- THE SECOND FORM. 'bulk': how many values and letters a reading holds, each counted each time it is reached (what is shared counts as often as it is met; a slice's spare places count too). A statement '..UptoSaid' is the law's where the arguments, and the package variables that the reading takes, are together of bulk at most 1048576: NARROWER than '..Said'. Prove '..Said' where nothing that the law and all that it calls make is longer than what came in: it says more and counts as full. Else prove '..UptoSaid'. A law counts once. -/
mutual
def uptoBulk {H : Type} : DataW H → Nat
  | .lit (.string bytes) => bytes.length + 1
  | .lit _ => 1
  | .nil => 1
  | .ptr d => uptoBulk d + 1
  | .slice elems spare => uptoBulkAll elems + uptoBulkAll spare + 1
  | .agg parts => uptoBulkAll parts + 1
  | .iface _ d => uptoBulk d + 1
  | .map entries => uptoBulkEntries entries + 1
  | .held _ => 1
def uptoBulkAll {H : Type} : List (DataW H) → Nat
  | [] => 0
  | d :: r => uptoBulk d + uptoBulkAll r
def uptoBulkEntries {H : Type} : List (Lit × DataW H) → Nat
  | [] => 0
  | x :: r => uptoBulkEntry x + uptoBulkEntries r
def uptoBulkEntry {H : Type} : Lit × DataW H → Nat
  | (.string bytes, d) => bytes.length + uptoBulk d + 1
  | (_, d) => uptoBulk d + 1
 end
def uptoSmall : (H : Type) → List (DataW H) → Bool := fun _ ds => decide (uptoBulkAll ds ≤ 1048576)
def OpenSpec.upto (s : _root_.Go.ChangeSpec) : _root_.Go.OpenSpec := { _root_.Go.OpenSpec.ofChange s with cond := some uptoSmall }

/-- 'exegesislaw20.PowerKnown', WHERE WHAT IT READS IS OF BULK AT MOST 1048576: true; the input reads as it did. -/
def powerKnownUptoRow : OpenClaim := { program := "ytkbggcmlmlnepaa", sum := "50a75621acef085b0b4fd0492fb59cfa9a9d1ed0bfea3f2daccac06d838a612b", func := "exegesis/exegesislaw20.PowerKnown", spec := "powerKnown", unfollowed := true, recurses := true, apart := false, narrowed := true }
def PowerKnownUptoSaid : Prop := powerKnownUptoRow.holds Try.pinned (OpenSpec.upto powerKnownSpec)

/-- 'exegesislaw20.PowerWrites', WHERE WHAT IT READS IS OF BULK AT MOST 1048576: true; the input reads as it did. -/
def powerWritesUptoRow : OpenClaim := { program := "ytkbggcmlmlnepaa", sum := "50a75621acef085b0b4fd0492fb59cfa9a9d1ed0bfea3f2daccac06d838a612b", func := "exegesis/exegesislaw20.PowerWrites", spec := "powerWrites", unfollowed := true, recurses := true, apart := false, narrowed := true }
def PowerWritesUptoSaid : Prop := powerWritesUptoRow.holds Try.pinned (OpenSpec.upto powerWritesSpec)

/-- 'exegesislaw20.PowerCoherent', WHERE WHAT IT READS IS OF BULK AT MOST 1048576: true; the input reads as it did. -/
def powerCoherentUptoRow : OpenClaim := { program := "ytkbggcmlmlnepaa", sum := "50a75621acef085b0b4fd0492fb59cfa9a9d1ed0bfea3f2daccac06d838a612b", func := "exegesis/exegesislaw20.PowerCoherent", spec := "powerCoherent", unfollowed := true, recurses := true, apart := false, narrowed := true }
def PowerCoherentUptoSaid : Prop := powerCoherentUptoRow.holds Try.pinned (OpenSpec.upto powerCoherentSpec)

/-- 'exegesislaw08.MemLast', WHERE WHAT IT READS IS OF BULK AT MOST 1048576: true; the input reads as it did. -/
def memLastUptoRow : OpenClaim := { program := "ytkbggcmlmlnepaa", sum := "50a75621acef085b0b4fd0492fb59cfa9a9d1ed0bfea3f2daccac06d838a612b", func := "exegesis/exegesislaw08.MemLast", spec := "memLast", unfollowed := true, recurses := true, apart := false, narrowed := true }
def MemLastUptoSaid : Prop := memLastUptoRow.holds Try.pinned (OpenSpec.upto memLastSpec)

/-- 'exegesislaw04.SoundBounds', WHERE WHAT IT READS IS OF BULK AT MOST 1048576: true; the input reads as it did. -/
def soundBoundsUptoRow : OpenClaim := { program := "ytkbggcmlmlnepaa", sum := "50a75621acef085b0b4fd0492fb59cfa9a9d1ed0bfea3f2daccac06d838a612b", func := "exegesis/exegesislaw04.SoundBounds", spec := "soundBounds", unfollowed := true, recurses := true, apart := false, narrowed := true }
def SoundBoundsUptoSaid : Prop := soundBoundsUptoRow.holds Try.pinned (OpenSpec.upto soundBoundsSpec)

/-- 'exegesislaw04.SoundWrong', WHERE WHAT IT READS IS OF BULK AT MOST 1048576: true; the input reads as it did. -/
def soundWrongUptoRow : OpenClaim := { program := "ytkbggcmlmlnepaa", sum := "50a75621acef085b0b4fd0492fb59cfa9a9d1ed0bfea3f2daccac06d838a612b", func := "exegesis/exegesislaw04.SoundWrong", spec := "soundWrong", unfollowed := true, recurses := true, apart := false, narrowed := true }
def SoundWrongUptoSaid : Prop := soundWrongUptoRow.holds Try.pinned (OpenSpec.upto soundWrongSpec)

/-- 'exegesislaw24.RulesKnown', WHERE WHAT IT READS IS OF BULK AT MOST 1048576: true; the input reads as it did. -/
def rulesKnownUptoRow : OpenClaim := { program := "ytkbggcmlmlnepaa", sum := "50a75621acef085b0b4fd0492fb59cfa9a9d1ed0bfea3f2daccac06d838a612b", func := "exegesis/exegesislaw24.RulesKnown", spec := "rulesKnown", unfollowed := true, recurses := true, apart := false, narrowed := true }
def RulesKnownUptoSaid : Prop := rulesKnownUptoRow.holds Try.pinned (OpenSpec.upto rulesKnownSpec)

/-- 'exegesislaw24.RulesTargets', WHERE WHAT IT READS IS OF BULK AT MOST 1048576: true; the input reads as it did. -/
def rulesTargetsUptoRow : OpenClaim := { program := "ytkbggcmlmlnepaa", sum := "50a75621acef085b0b4fd0492fb59cfa9a9d1ed0bfea3f2daccac06d838a612b", func := "exegesis/exegesislaw24.RulesTargets", spec := "rulesTargets", unfollowed := true, recurses := true, apart := false, narrowed := true }
def RulesTargetsUptoSaid : Prop := rulesTargetsUptoRow.holds Try.pinned (OpenSpec.upto rulesTargetsSpec)

/-- 'exegesislaw24.RulesModes', WHERE WHAT IT READS IS OF BULK AT MOST 1048576: true; the input reads as it did. -/
def rulesModesUptoRow : OpenClaim := { program := "ytkbggcmlmlnepaa", sum := "50a75621acef085b0b4fd0492fb59cfa9a9d1ed0bfea3f2daccac06d838a612b", func := "exegesis/exegesislaw24.RulesModes", spec := "rulesModes", unfollowed := true, recurses := true, apart := false, narrowed := true }
def RulesModesUptoSaid : Prop := rulesModesUptoRow.holds Try.pinned (OpenSpec.upto rulesModesSpec)

end Rows
end Go.Proofs.Ytkbggcmlmlnepaa
