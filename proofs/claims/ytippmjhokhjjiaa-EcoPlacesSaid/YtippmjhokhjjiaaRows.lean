/-
  No cell of these rows narrows 'for every input' (looked for: loops, veiled, ifaces, maps, wideKeys, modest, calm, conditions, laid).
  DERIVED. THE GIVEN ROWS OF THIS SEAT. 8 by the template 'for every input the law returns true; each argument reads behind the call as it read before'; 0 by the template 'total and deterministic' (their statements: YtippmjhokhjjiaaTotals.lean).
  GIVEN WITH THE SEED: the statements are not yours to turn. If you find one false, say at which input.
  Laid BY PROGRAM, IN A SANDBOX (cutbox-rows.mjs): the forced cells as the released guide's own fill.sh prints them over the translation 67f11fd853c1b285… (all of the seat's roots in one cut). By AI agents, Wed Nov 11 2026. No macro, syntax, notation, axiom, sorry.
-/
import Derived.Test.YtippmjhokhjjiaaChecked
import GoSem.Claim
import GoSem.ClaimJoined
import GoSem.ClaimMapViews
import Derived.JoinedTies
import Derived.KernelRfl
namespace Go.Proofs.Ytippmjhokhjjiaa
/- THE CELL 'sum', in the pinned program and in every row, IS THE sha256 OF THE DUMP (.gsa) THAT YtippmjhokhjjiaaProg.lean LOADS. Nothing in Lean hashes anything: it is a label: what it is worth is what the hold of that sum in a sandbox is worth. -/
noncomputable def Try.pinned : Pinned := { name := "ytippmjhokhjjiaa", sum := "67f11fd853c1b28550b4acb9a1b431b93edd13dbd8a8b9937a4ac17e8d66fb3c", checked := Try.checked }
namespace Rows
def none {H : Type} : Left H := { results := [], args := [] }

/-- 'exegesislaw01.RelAlgebra': WHATEVER THE INPUT: true; the input reads as it did. -/
def relAlgebraSpec : ChangeSpec := { name := "relAlgebra", fn := fun _ => fun
  | [d1, d2, d3, d4] => { results := [.lit (.bool true)], args := [d1, d2, d3, d4] }
  | _ => none }
def relAlgebraRow : OpenClaim := { program := "ytippmjhokhjjiaa", sum := "67f11fd853c1b28550b4acb9a1b431b93edd13dbd8a8b9937a4ac17e8d66fb3c", func := "exegesis/exegesislaw01.RelAlgebra", spec := "relAlgebra", unfollowed := true, recurses := true, apart := false }
def RelAlgebraSaid : Prop := relAlgebraRow.holds Try.pinned (OpenSpec.ofChange relAlgebraSpec)

/-- ITS FALSE NEIGHBOUR: 'it returns false'. Refute it at one input. -/
def relAlgebraWrong : ChangeSpec := { name := "relAlgebra", fn := fun _ => fun
  | [d1, d2, d3, d4] => { results := [.lit (.bool false)], args := [d1, d2, d3, d4] }
  | _ => none }
def RelAlgebraWrongFalsely : Prop := relAlgebraRow.holds Try.pinned (OpenSpec.ofChange relAlgebraWrong)

/-- 'exegesislaw01.RelAll': WHATEVER THE INPUT: true; the input reads as it did. -/
def relAllSpec : ChangeSpec := { name := "relAll", fn := fun _ => fun
  | [d1, d2, d3, d4] => { results := [.lit (.bool true)], args := [d1, d2, d3, d4] }
  | _ => none }
def relAllRow : OpenClaim := { program := "ytippmjhokhjjiaa", sum := "67f11fd853c1b28550b4acb9a1b431b93edd13dbd8a8b9937a4ac17e8d66fb3c", func := "exegesis/exegesislaw01.RelAll", spec := "relAll", unfollowed := true, recurses := true, apart := false }
def RelAllSaid : Prop := relAllRow.holds Try.pinned (OpenSpec.ofChange relAllSpec)

/-- ITS FALSE NEIGHBOUR: 'it returns false'. Refute it at one input. -/
def relAllWrong : ChangeSpec := { name := "relAll", fn := fun _ => fun
  | [d1, d2, d3, d4] => { results := [.lit (.bool false)], args := [d1, d2, d3, d4] }
  | _ => none }
def RelAllWrongFalsely : Prop := relAllRow.holds Try.pinned (OpenSpec.ofChange relAllWrong)

/-- 'exegesislaw09.EcoAny': WHATEVER THE INPUT: true; the input reads as it did. -/
def ecoAnySpec : ChangeSpec := { name := "ecoAny", fn := fun _ => fun
  | [d1, d2] => { results := [.lit (.bool true)], args := [d1, d2] }
  | _ => none }
def ecoAnyRow : OpenClaim := { program := "ytippmjhokhjjiaa", sum := "67f11fd853c1b28550b4acb9a1b431b93edd13dbd8a8b9937a4ac17e8d66fb3c", func := "exegesis/exegesislaw09.EcoAny", spec := "ecoAny", unfollowed := true, recurses := true, apart := false }
def EcoAnySaid : Prop := ecoAnyRow.holds Try.pinned (OpenSpec.ofChange ecoAnySpec)

/-- ITS FALSE NEIGHBOUR: 'it returns false'. Refute it at one input. -/
def ecoAnyWrong : ChangeSpec := { name := "ecoAny", fn := fun _ => fun
  | [d1, d2] => { results := [.lit (.bool false)], args := [d1, d2] }
  | _ => none }
def EcoAnyWrongFalsely : Prop := ecoAnyRow.holds Try.pinned (OpenSpec.ofChange ecoAnyWrong)

/-- 'exegesislaw09.EcoNumbers': WHATEVER THE INPUT: true; the input reads as it did. -/
def ecoNumbersSpec : ChangeSpec := { name := "ecoNumbers", fn := fun _ => fun
  | [d1, d2, d3] => { results := [.lit (.bool true)], args := [d1, d2, d3] }
  | _ => none }
def ecoNumbersRow : OpenClaim := { program := "ytippmjhokhjjiaa", sum := "67f11fd853c1b28550b4acb9a1b431b93edd13dbd8a8b9937a4ac17e8d66fb3c", func := "exegesis/exegesislaw09.EcoNumbers", spec := "ecoNumbers", unfollowed := true, recurses := true, apart := false }
def EcoNumbersSaid : Prop := ecoNumbersRow.holds Try.pinned (OpenSpec.ofChange ecoNumbersSpec)

/-- ITS FALSE NEIGHBOUR: 'it returns false'. Refute it at one input. -/
def ecoNumbersWrong : ChangeSpec := { name := "ecoNumbers", fn := fun _ => fun
  | [d1, d2, d3] => { results := [.lit (.bool false)], args := [d1, d2, d3] }
  | _ => none }
def EcoNumbersWrongFalsely : Prop := ecoNumbersRow.holds Try.pinned (OpenSpec.ofChange ecoNumbersWrong)

/-- 'exegesislaw09.EcoPlaces': WHATEVER THE INPUT: true; the input reads as it did. -/
def ecoPlacesSpec : ChangeSpec := { name := "ecoPlaces", fn := fun _ => fun
  | [d1, d2] => { results := [.lit (.bool true)], args := [d1, d2] }
  | _ => none }
def ecoPlacesRow : OpenClaim := { program := "ytippmjhokhjjiaa", sum := "67f11fd853c1b28550b4acb9a1b431b93edd13dbd8a8b9937a4ac17e8d66fb3c", func := "exegesis/exegesislaw09.EcoPlaces", spec := "ecoPlaces", unfollowed := true, recurses := true, apart := false }
def EcoPlacesSaid : Prop := ecoPlacesRow.holds Try.pinned (OpenSpec.ofChange ecoPlacesSpec)

/-- ITS FALSE NEIGHBOUR: 'it returns false'. Refute it at one input. -/
def ecoPlacesWrong : ChangeSpec := { name := "ecoPlaces", fn := fun _ => fun
  | [d1, d2] => { results := [.lit (.bool false)], args := [d1, d2] }
  | _ => none }
def EcoPlacesWrongFalsely : Prop := ecoPlacesRow.holds Try.pinned (OpenSpec.ofChange ecoPlacesWrong)

/-- 'exegesislaw10.SyncAny': WHATEVER THE INPUT: true; the input reads as it did. -/
def syncAnySpec : ChangeSpec := { name := "syncAny", fn := fun _ => fun
  | [d] => { results := [.lit (.bool true)], args := [d] }
  | _ => none }
def syncAnyRow : OpenClaim := { program := "ytippmjhokhjjiaa", sum := "67f11fd853c1b28550b4acb9a1b431b93edd13dbd8a8b9937a4ac17e8d66fb3c", func := "exegesis/exegesislaw10.SyncAny", spec := "syncAny", unfollowed := true, recurses := true, apart := false }
def SyncAnySaid : Prop := syncAnyRow.holds Try.pinned (OpenSpec.ofChange syncAnySpec)

/-- ITS FALSE NEIGHBOUR: 'it returns false'. Refute it at one input. -/
def syncAnyWrong : ChangeSpec := { name := "syncAny", fn := fun _ => fun
  | [d] => { results := [.lit (.bool false)], args := [d] }
  | _ => none }
def SyncAnyWrongFalsely : Prop := syncAnyRow.holds Try.pinned (OpenSpec.ofChange syncAnyWrong)

/-- 'exegesislaw10.SyncPlain': WHATEVER THE INPUT: true; the input reads as it did. -/
def syncPlainSpec : ChangeSpec := { name := "syncPlain", fn := fun _ => fun
  | [d1, d2] => { results := [.lit (.bool true)], args := [d1, d2] }
  | _ => none }
def syncPlainRow : OpenClaim := { program := "ytippmjhokhjjiaa", sum := "67f11fd853c1b28550b4acb9a1b431b93edd13dbd8a8b9937a4ac17e8d66fb3c", func := "exegesis/exegesislaw10.SyncPlain", spec := "syncPlain", unfollowed := true, recurses := true, apart := false }
def SyncPlainSaid : Prop := syncPlainRow.holds Try.pinned (OpenSpec.ofChange syncPlainSpec)

/-- ITS FALSE NEIGHBOUR: 'it returns false'. Refute it at one input. -/
def syncPlainWrong : ChangeSpec := { name := "syncPlain", fn := fun _ => fun
  | [d1, d2] => { results := [.lit (.bool false)], args := [d1, d2] }
  | _ => none }
def SyncPlainWrongFalsely : Prop := syncPlainRow.holds Try.pinned (OpenSpec.ofChange syncPlainWrong)

/-- 'exegesislaw08.MemFinal': WHATEVER THE INPUT: true; the input reads as it did. -/
def memFinalSpec : ChangeSpec := { name := "memFinal", fn := fun _ => fun
  | [d1, d2] => { results := [.lit (.bool true)], args := [d1, d2] }
  | _ => none }
def memFinalRow : OpenClaim := { program := "ytippmjhokhjjiaa", sum := "67f11fd853c1b28550b4acb9a1b431b93edd13dbd8a8b9937a4ac17e8d66fb3c", func := "exegesis/exegesislaw08.MemFinal", spec := "memFinal", unfollowed := true, recurses := true, apart := false }
def MemFinalSaid : Prop := memFinalRow.holds Try.pinned (OpenSpec.ofChange memFinalSpec)

/-- ITS FALSE NEIGHBOUR: 'it returns false'. Refute it at one input. -/
def memFinalWrong : ChangeSpec := { name := "memFinal", fn := fun _ => fun
  | [d1, d2] => { results := [.lit (.bool false)], args := [d1, d2] }
  | _ => none }
def MemFinalWrongFalsely : Prop := memFinalRow.holds Try.pinned (OpenSpec.ofChange memFinalWrong)

/- THE SECOND FORM. 'bulk': how many values and letters a reading holds, each counted each time it is reached (what is shared counts as often as it is met; a slice's spare places count too). A statement '..UptoSaid' is the law's where the arguments, and the package variables that the reading takes, are together of bulk at most 1048576: NARROWER than '..Said'. Prove '..Said' where nothing that the law and all that it calls make is longer than what came in: it says more and counts as full. Else prove '..UptoSaid'. A law counts once. -/
mutual
def uptoBulk {H : Type} : DataW H → Nat
  | .lit (.string bytes) => bytes.length + 1
  | .lit _ => 1
  | .nil => 1
  | .ptr d => uptoBulk d + 1
  | .slice elems spare => uptoBulkAll elems + uptoBulkAll spare + 1
  | .agg parts => uptoBulkAll parts + 1
  | .iface _ d => uptoBulk d + 1
  | .map entries => uptoBulkEntries entries + 1
  | .held _ => 1
def uptoBulkAll {H : Type} : List (DataW H) → Nat
  | [] => 0
  | d :: r => uptoBulk d + uptoBulkAll r
def uptoBulkEntries {H : Type} : List (Lit × DataW H) → Nat
  | [] => 0
  | x :: r => uptoBulkEntry x + uptoBulkEntries r
def uptoBulkEntry {H : Type} : Lit × DataW H → Nat
  | (.string bytes, d) => bytes.length + uptoBulk d + 1
  | (_, d) => uptoBulk d + 1
 end
def uptoSmall : (H : Type) → List (DataW H) → Bool := fun _ ds => decide (uptoBulkAll ds ≤ 1048576)
def OpenSpec.upto (s : _root_.Go.ChangeSpec) : _root_.Go.OpenSpec := { _root_.Go.OpenSpec.ofChange s with cond := some uptoSmall }

/-- 'exegesislaw01.RelAlgebra', WHERE WHAT IT READS IS OF BULK AT MOST 1048576: true; the input reads as it did. -/
def relAlgebraUptoRow : OpenClaim := { program := "ytippmjhokhjjiaa", sum := "67f11fd853c1b28550b4acb9a1b431b93edd13dbd8a8b9937a4ac17e8d66fb3c", func := "exegesis/exegesislaw01.RelAlgebra", spec := "relAlgebra", unfollowed := true, recurses := true, apart := false, narrowed := true }
def RelAlgebraUptoSaid : Prop := relAlgebraUptoRow.holds Try.pinned (OpenSpec.upto relAlgebraSpec)

/-- 'exegesislaw01.RelAll', WHERE WHAT IT READS IS OF BULK AT MOST 1048576: true; the input reads as it did. -/
def relAllUptoRow : OpenClaim := { program := "ytippmjhokhjjiaa", sum := "67f11fd853c1b28550b4acb9a1b431b93edd13dbd8a8b9937a4ac17e8d66fb3c", func := "exegesis/exegesislaw01.RelAll", spec := "relAll", unfollowed := true, recurses := true, apart := false, narrowed := true }
def RelAllUptoSaid : Prop := relAllUptoRow.holds Try.pinned (OpenSpec.upto relAllSpec)

/-- 'exegesislaw09.EcoAny', WHERE WHAT IT READS IS OF BULK AT MOST 1048576: true; the input reads as it did. -/
def ecoAnyUptoRow : OpenClaim := { program := "ytippmjhokhjjiaa", sum := "67f11fd853c1b28550b4acb9a1b431b93edd13dbd8a8b9937a4ac17e8d66fb3c", func := "exegesis/exegesislaw09.EcoAny", spec := "ecoAny", unfollowed := true, recurses := true, apart := false, narrowed := true }
def EcoAnyUptoSaid : Prop := ecoAnyUptoRow.holds Try.pinned (OpenSpec.upto ecoAnySpec)

/-- 'exegesislaw09.EcoNumbers', WHERE WHAT IT READS IS OF BULK AT MOST 1048576: true; the input reads as it did. -/
def ecoNumbersUptoRow : OpenClaim := { program := "ytippmjhokhjjiaa", sum := "67f11fd853c1b28550b4acb9a1b431b93edd13dbd8a8b9937a4ac17e8d66fb3c", func := "exegesis/exegesislaw09.EcoNumbers", spec := "ecoNumbers", unfollowed := true, recurses := true, apart := false, narrowed := true }
def EcoNumbersUptoSaid : Prop := ecoNumbersUptoRow.holds Try.pinned (OpenSpec.upto ecoNumbersSpec)

/-- 'exegesislaw09.EcoPlaces', WHERE WHAT IT READS IS OF BULK AT MOST 1048576: true; the input reads as it did. -/
def ecoPlacesUptoRow : OpenClaim := { program := "ytippmjhokhjjiaa", sum := "67f11fd853c1b28550b4acb9a1b431b93edd13dbd8a8b9937a4ac17e8d66fb3c", func := "exegesis/exegesislaw09.EcoPlaces", spec := "ecoPlaces", unfollowed := true, recurses := true, apart := false, narrowed := true }
def EcoPlacesUptoSaid : Prop := ecoPlacesUptoRow.holds Try.pinned (OpenSpec.upto ecoPlacesSpec)

/-- 'exegesislaw10.SyncAny', WHERE WHAT IT READS IS OF BULK AT MOST 1048576: true; the input reads as it did. -/
def syncAnyUptoRow : OpenClaim := { program := "ytippmjhokhjjiaa", sum := "67f11fd853c1b28550b4acb9a1b431b93edd13dbd8a8b9937a4ac17e8d66fb3c", func := "exegesis/exegesislaw10.SyncAny", spec := "syncAny", unfollowed := true, recurses := true, apart := false, narrowed := true }
def SyncAnyUptoSaid : Prop := syncAnyUptoRow.holds Try.pinned (OpenSpec.upto syncAnySpec)

/-- 'exegesislaw10.SyncPlain', WHERE WHAT IT READS IS OF BULK AT MOST 1048576: true; the input reads as it did. -/
def syncPlainUptoRow : OpenClaim := { program := "ytippmjhokhjjiaa", sum := "67f11fd853c1b28550b4acb9a1b431b93edd13dbd8a8b9937a4ac17e8d66fb3c", func := "exegesis/exegesislaw10.SyncPlain", spec := "syncPlain", unfollowed := true, recurses := true, apart := false, narrowed := true }
def SyncPlainUptoSaid : Prop := syncPlainUptoRow.holds Try.pinned (OpenSpec.upto syncPlainSpec)

/-- 'exegesislaw08.MemFinal', WHERE WHAT IT READS IS OF BULK AT MOST 1048576: true; the input reads as it did. -/
def memFinalUptoRow : OpenClaim := { program := "ytippmjhokhjjiaa", sum := "67f11fd853c1b28550b4acb9a1b431b93edd13dbd8a8b9937a4ac17e8d66fb3c", func := "exegesis/exegesislaw08.MemFinal", spec := "memFinal", unfollowed := true, recurses := true, apart := false, narrowed := true }
def MemFinalUptoSaid : Prop := memFinalUptoRow.holds Try.pinned (OpenSpec.upto memFinalSpec)

end Rows
end Go.Proofs.Ytippmjhokhjjiaa
