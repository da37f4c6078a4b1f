/-
  No cell of these rows narrows 'for every input' (looked for: loops, veiled, ifaces, maps, wideKeys, modest, calm, conditions, laid).
  DERIVED. THE GIVEN ROWS OF THIS SEAT. 8 by the template 'for every input the law returns true; each argument reads behind the call as it read before'; 0 by the template 'total and deterministic' (their statements: YthafjhelijmpcaaGreatTotals.lean).
  GIVEN WITH THE SEED: the statements are not yours to turn. If you find one false, say at which input.
  Laid BY PROGRAM, IN A SANDBOX (cutbox-rows.mjs): the forced cells as the released guide's own fill.sh prints them over the translation f894744bcbfce061… (all of the seat's roots in one cut). By AI agents, Wed Nov 11 2026. No macro, syntax, notation, axiom, sorry.
-/
import Derived.Test.YthafjhelijmpcaaGreatChecked
import GoSem.Claim
import GoSem.ClaimJoined
import GoSem.ClaimMapViews
import Derived.JoinedTies
import Derived.KernelRfl
namespace Go.Proofs.YthafjhelijmpcaaGreat
/- THE CELL 'sum', in the pinned program and in every row, IS THE sha256 OF THE DUMP (.gsa) THAT YthafjhelijmpcaaGreatProg.lean LOADS. Nothing in Lean hashes anything: it is a label: what it is worth is what the hold of that sum in a sandbox is worth. -/
noncomputable def Tryz.pinned : Pinned := { name := "ythafjhelijmpcaagreat", sum := "f894744bcbfce061ff8be9cad1eea4d7b1ef7a6161f6678d275765a3f7d20ab5", checked := Tryz.checked }
namespace Rows
def none {H : Type} : Left H := { results := [], args := [] }

/-- 'exegesislaw19.PpoWithin': WHATEVER THE INPUT: true; the input reads as it did. -/
def ppoWithinSpec : ChangeSpec := { name := "ppoWithin", fn := fun _ => fun
  | [d1, d2] => { results := [.lit (.bool true)], args := [d1, d2] }
  | _ => none }
def ppoWithinRow : OpenClaim := { program := "ythafjhelijmpcaagreat", sum := "f894744bcbfce061ff8be9cad1eea4d7b1ef7a6161f6678d275765a3f7d20ab5", func := "exegesis/exegesislaw19.PpoWithin", spec := "ppoWithin", unfollowed := true, recurses := true, apart := false }
def PpoWithinSaid : Prop := ppoWithinRow.holds Tryz.pinned (OpenSpec.ofChange ppoWithinSpec)

/-- ITS FALSE NEIGHBOUR: 'it returns false'. Refute it at one input. -/
def ppoWithinWrong : ChangeSpec := { name := "ppoWithin", fn := fun _ => fun
  | [d1, d2] => { results := [.lit (.bool false)], args := [d1, d2] }
  | _ => none }
def PpoWithinWrongFalsely : Prop := ppoWithinRow.holds Tryz.pinned (OpenSpec.ofChange ppoWithinWrong)

/-- 'exegesislaw19.PpoNumbers': WHATEVER THE INPUT: true; the input reads as it did. -/
def ppoNumbersSpec : ChangeSpec := { name := "ppoNumbers", fn := fun _ => fun
  | [d1, d2] => { results := [.lit (.bool true)], args := [d1, d2] }
  | _ => none }
def ppoNumbersRow : OpenClaim := { program := "ythafjhelijmpcaagreat", sum := "f894744bcbfce061ff8be9cad1eea4d7b1ef7a6161f6678d275765a3f7d20ab5", func := "exegesis/exegesislaw19.PpoNumbers", spec := "ppoNumbers", unfollowed := true, recurses := true, apart := false }
def PpoNumbersSaid : Prop := ppoNumbersRow.holds Tryz.pinned (OpenSpec.ofChange ppoNumbersSpec)

/-- ITS FALSE NEIGHBOUR: 'it returns false'. Refute it at one input. -/
def ppoNumbersWrong : ChangeSpec := { name := "ppoNumbers", fn := fun _ => fun
  | [d1, d2] => { results := [.lit (.bool false)], args := [d1, d2] }
  | _ => none }
def PpoNumbersWrongFalsely : Prop := ppoNumbersRow.holds Tryz.pinned (OpenSpec.ofChange ppoNumbersWrong)

/-- 'exegesislaw10.SyncNumbers': WHATEVER THE INPUT: true; the input reads as it did. -/
def syncNumbersSpec : ChangeSpec := { name := "syncNumbers", fn := fun _ => fun
  | [d1, d2] => { results := [.lit (.bool true)], args := [d1, d2] }
  | _ => none }
def syncNumbersRow : OpenClaim := { program := "ythafjhelijmpcaagreat", sum := "f894744bcbfce061ff8be9cad1eea4d7b1ef7a6161f6678d275765a3f7d20ab5", func := "exegesis/exegesislaw10.SyncNumbers", spec := "syncNumbers", unfollowed := true, recurses := true, apart := false }
def SyncNumbersSaid : Prop := syncNumbersRow.holds Tryz.pinned (OpenSpec.ofChange syncNumbersSpec)

/-- ITS FALSE NEIGHBOUR: 'it returns false'. Refute it at one input. -/
def syncNumbersWrong : ChangeSpec := { name := "syncNumbers", fn := fun _ => fun
  | [d1, d2] => { results := [.lit (.bool false)], args := [d1, d2] }
  | _ => none }
def SyncNumbersWrongFalsely : Prop := syncNumbersRow.holds Tryz.pinned (OpenSpec.ofChange syncNumbersWrong)

/-- 'exegesislaw11.OrderNumbers': WHATEVER THE INPUT: true; the input reads as it did. -/
def orderNumbersSpec : ChangeSpec := { name := "orderNumbers", fn := fun _ => fun
  | [d1, d2] => { results := [.lit (.bool true)], args := [d1, d2] }
  | _ => none }
def orderNumbersRow : OpenClaim := { program := "ythafjhelijmpcaagreat", sum := "f894744bcbfce061ff8be9cad1eea4d7b1ef7a6161f6678d275765a3f7d20ab5", func := "exegesis/exegesislaw11.OrderNumbers", spec := "orderNumbers", unfollowed := true, recurses := true, apart := false }
def OrderNumbersSaid : Prop := orderNumbersRow.holds Tryz.pinned (OpenSpec.ofChange orderNumbersSpec)

/-- ITS FALSE NEIGHBOUR: 'it returns false'. Refute it at one input. -/
def orderNumbersWrong : ChangeSpec := { name := "orderNumbers", fn := fun _ => fun
  | [d1, d2] => { results := [.lit (.bool false)], args := [d1, d2] }
  | _ => none }
def OrderNumbersWrongFalsely : Prop := orderNumbersRow.holds Tryz.pinned (OpenSpec.ofChange orderNumbersWrong)

/-- 'exegesislaw11.OrderMore': WHATEVER THE INPUT: true; the input reads as it did. -/
def orderMoreSpec : ChangeSpec := { name := "orderMore", fn := fun _ => fun
  | [d1, d2, d3] => { results := [.lit (.bool true)], args := [d1, d2, d3] }
  | _ => none }
def orderMoreRow : OpenClaim := { program := "ythafjhelijmpcaagreat", sum := "f894744bcbfce061ff8be9cad1eea4d7b1ef7a6161f6678d275765a3f7d20ab5", func := "exegesis/exegesislaw11.OrderMore", spec := "orderMore", unfollowed := true, recurses := true, apart := false }
def OrderMoreSaid : Prop := orderMoreRow.holds Tryz.pinned (OpenSpec.ofChange orderMoreSpec)

/-- ITS FALSE NEIGHBOUR: 'it returns false'. Refute it at one input. -/
def orderMoreWrong : ChangeSpec := { name := "orderMore", fn := fun _ => fun
  | [d1, d2, d3] => { results := [.lit (.bool false)], args := [d1, d2, d3] }
  | _ => none }
def OrderMoreWrongFalsely : Prop := orderMoreRow.holds Tryz.pinned (OpenSpec.ofChange orderMoreWrong)

/-- 'exegesislaw20.PowerNumbers': WHATEVER THE INPUT: true; the input reads as it did. -/
def powerNumbersSpec : ChangeSpec := { name := "powerNumbers", fn := fun _ => fun
  | [d1, d2] => { results := [.lit (.bool true)], args := [d1, d2] }
  | _ => none }
def powerNumbersRow : OpenClaim := { program := "ythafjhelijmpcaagreat", sum := "f894744bcbfce061ff8be9cad1eea4d7b1ef7a6161f6678d275765a3f7d20ab5", func := "exegesis/exegesislaw20.PowerNumbers", spec := "powerNumbers", unfollowed := true, recurses := true, apart := false }
def PowerNumbersSaid : Prop := powerNumbersRow.holds Tryz.pinned (OpenSpec.ofChange powerNumbersSpec)

/-- ITS FALSE NEIGHBOUR: 'it returns false'. Refute it at one input. -/
def powerNumbersWrong : ChangeSpec := { name := "powerNumbers", fn := fun _ => fun
  | [d1, d2] => { results := [.lit (.bool false)], args := [d1, d2] }
  | _ => none }
def PowerNumbersWrongFalsely : Prop := powerNumbersRow.holds Tryz.pinned (OpenSpec.ofChange powerNumbersWrong)

/-- 'exegesislaw12.ImmNumbers': WHATEVER THE INPUT: true; the input reads as it did. -/
def immNumbersSpec : ChangeSpec := { name := "immNumbers", fn := fun _ => fun
  | [d1, d2] => { results := [.lit (.bool true)], args := [d1, d2] }
  | _ => none }
def immNumbersRow : OpenClaim := { program := "ythafjhelijmpcaagreat", sum := "f894744bcbfce061ff8be9cad1eea4d7b1ef7a6161f6678d275765a3f7d20ab5", func := "exegesis/exegesislaw12.ImmNumbers", spec := "immNumbers", unfollowed := true, recurses := true, apart := false }
def ImmNumbersSaid : Prop := immNumbersRow.holds Tryz.pinned (OpenSpec.ofChange immNumbersSpec)

/-- ITS FALSE NEIGHBOUR: 'it returns false'. Refute it at one input. -/
def immNumbersWrong : ChangeSpec := { name := "immNumbers", fn := fun _ => fun
  | [d1, d2] => { results := [.lit (.bool false)], args := [d1, d2] }
  | _ => none }
def ImmNumbersWrongFalsely : Prop := immNumbersRow.holds Tryz.pinned (OpenSpec.ofChange immNumbersWrong)

/-- 'exegesislaw12.ImmAlone': WHATEVER THE INPUT: true; the input reads as it did. -/
def immAloneSpec : ChangeSpec := { name := "immAlone", fn := fun _ => fun
  | [d] => { results := [.lit (.bool true)], args := [d] }
  | _ => none }
def immAloneRow : OpenClaim := { program := "ythafjhelijmpcaagreat", sum := "f894744bcbfce061ff8be9cad1eea4d7b1ef7a6161f6678d275765a3f7d20ab5", func := "exegesis/exegesislaw12.ImmAlone", spec := "immAlone", unfollowed := true, recurses := true, apart := false }
def ImmAloneSaid : Prop := immAloneRow.holds Tryz.pinned (OpenSpec.ofChange immAloneSpec)

/-- ITS FALSE NEIGHBOUR: 'it returns false'. Refute it at one input. -/
def immAloneWrong : ChangeSpec := { name := "immAlone", fn := fun _ => fun
  | [d] => { results := [.lit (.bool false)], args := [d] }
  | _ => none }
def ImmAloneWrongFalsely : Prop := immAloneRow.holds Tryz.pinned (OpenSpec.ofChange immAloneWrong)

/- THE SECOND FORM. 'bulk': how many values and letters a reading holds, each counted each time it is reached (what is shared counts as often as it is met; a slice's spare places count too). A statement '..UptoSaid' is the law's where the arguments, and the package variables that the reading takes, are together of bulk at most 1048576: NARROWER than '..Said'. Prove '..Said' where nothing that the law and all that it calls make is longer than what came in: it says more and counts as full. Else prove '..UptoSaid'. A law counts once. -/
mutual
def uptoBulk {H : Type} : DataW H → Nat
  | .lit (.string bytes) => bytes.length + 1
  | .lit _ => 1
  | .nil => 1
  | .ptr d => uptoBulk d + 1
  | .slice elems spare => uptoBulkAll elems + uptoBulkAll spare + 1
  | .agg parts => uptoBulkAll parts + 1
  | .iface _ d => uptoBulk d + 1
  | .map entries => uptoBulkEntries entries + 1
  | .held _ => 1
def uptoBulkAll {H : Type} : List (DataW H) → Nat
  | [] => 0
  | d :: r => uptoBulk d + uptoBulkAll r
def uptoBulkEntries {H : Type} : List (Lit × DataW H) → Nat
  | [] => 0
  | x :: r => uptoBulkEntry x + uptoBulkEntries r
def uptoBulkEntry {H : Type} : Lit × DataW H → Nat
  | (.string bytes, d) => bytes.length + uptoBulk d + 1
  | (_, d) => uptoBulk d + 1
 end
def uptoSmall : (H : Type) → List (DataW H) → Bool := fun _ ds => decide (uptoBulkAll ds ≤ 1048576)
def OpenSpec.upto (s : _root_.Go.ChangeSpec) : _root_.Go.OpenSpec := { _root_.Go.OpenSpec.ofChange s with cond := some uptoSmall }

/-- 'exegesislaw19.PpoWithin', WHERE WHAT IT READS IS OF BULK AT MOST 1048576: true; the input reads as it did. -/
def ppoWithinUptoRow : OpenClaim := { program := "ythafjhelijmpcaagreat", sum := "f894744bcbfce061ff8be9cad1eea4d7b1ef7a6161f6678d275765a3f7d20ab5", func := "exegesis/exegesislaw19.PpoWithin", spec := "ppoWithin", unfollowed := true, recurses := true, apart := false, narrowed := true }
def PpoWithinUptoSaid : Prop := ppoWithinUptoRow.holds Tryz.pinned (OpenSpec.upto ppoWithinSpec)

/-- 'exegesislaw19.PpoNumbers', WHERE WHAT IT READS IS OF BULK AT MOST 1048576: true; the input reads as it did. -/
def ppoNumbersUptoRow : OpenClaim := { program := "ythafjhelijmpcaagreat", sum := "f894744bcbfce061ff8be9cad1eea4d7b1ef7a6161f6678d275765a3f7d20ab5", func := "exegesis/exegesislaw19.PpoNumbers", spec := "ppoNumbers", unfollowed := true, recurses := true, apart := false, narrowed := true }
def PpoNumbersUptoSaid : Prop := ppoNumbersUptoRow.holds Tryz.pinned (OpenSpec.upto ppoNumbersSpec)

/-- 'exegesislaw10.SyncNumbers', WHERE WHAT IT READS IS OF BULK AT MOST 1048576: true; the input reads as it did. -/
def syncNumbersUptoRow : OpenClaim := { program := "ythafjhelijmpcaagreat", sum := "f894744bcbfce061ff8be9cad1eea4d7b1ef7a6161f6678d275765a3f7d20ab5", func := "exegesis/exegesislaw10.SyncNumbers", spec := "syncNumbers", unfollowed := true, recurses := true, apart := false, narrowed := true }
def SyncNumbersUptoSaid : Prop := syncNumbersUptoRow.holds Tryz.pinned (OpenSpec.upto syncNumbersSpec)

/-- 'exegesislaw11.OrderNumbers', WHERE WHAT IT READS IS OF BULK AT MOST 1048576: true; the input reads as it did. -/
def orderNumbersUptoRow : OpenClaim := { program := "ythafjhelijmpcaagreat", sum := "f894744bcbfce061ff8be9cad1eea4d7b1ef7a6161f6678d275765a3f7d20ab5", func := "exegesis/exegesislaw11.OrderNumbers", spec := "orderNumbers", unfollowed := true, recurses := true, apart := false, narrowed := true }
def OrderNumbersUptoSaid : Prop := orderNumbersUptoRow.holds Tryz.pinned (OpenSpec.upto orderNumbersSpec)

/-- 'exegesislaw11.OrderMore', WHERE WHAT IT READS IS OF BULK AT MOST 1048576: true; the input reads as it did. -/
def orderMoreUptoRow : OpenClaim := { program := "ythafjhelijmpcaagreat", sum := "f894744bcbfce061ff8be9cad1eea4d7b1ef7a6161f6678d275765a3f7d20ab5", func := "exegesis/exegesislaw11.OrderMore", spec := "orderMore", unfollowed := true, recurses := true, apart := false, narrowed := true }
def OrderMoreUptoSaid : Prop := orderMoreUptoRow.holds Tryz.pinned (OpenSpec.upto orderMoreSpec)

/-- 'exegesislaw20.PowerNumbers', WHERE WHAT IT READS IS OF BULK AT MOST 1048576: true; the input reads as it did. -/
def powerNumbersUptoRow : OpenClaim := { program := "ythafjhelijmpcaagreat", sum := "f894744bcbfce061ff8be9cad1eea4d7b1ef7a6161f6678d275765a3f7d20ab5", func := "exegesis/exegesislaw20.PowerNumbers", spec := "powerNumbers", unfollowed := true, recurses := true, apart := false, narrowed := true }
def PowerNumbersUptoSaid : Prop := powerNumbersUptoRow.holds Tryz.pinned (OpenSpec.upto powerNumbersSpec)

/-- 'exegesislaw12.ImmNumbers', WHERE WHAT IT READS IS OF BULK AT MOST 1048576: true; the input reads as it did. -/
def immNumbersUptoRow : OpenClaim := { program := "ythafjhelijmpcaagreat", sum := "f894744bcbfce061ff8be9cad1eea4d7b1ef7a6161f6678d275765a3f7d20ab5", func := "exegesis/exegesislaw12.ImmNumbers", spec := "immNumbers", unfollowed := true, recurses := true, apart := false, narrowed := true }
def ImmNumbersUptoSaid : Prop := immNumbersUptoRow.holds Tryz.pinned (OpenSpec.upto immNumbersSpec)

/-- 'exegesislaw12.ImmAlone', WHERE WHAT IT READS IS OF BULK AT MOST 1048576: true; the input reads as it did. -/
def immAloneUptoRow : OpenClaim := { program := "ythafjhelijmpcaagreat", sum := "f894744bcbfce061ff8be9cad1eea4d7b1ef7a6161f6678d275765a3f7d20ab5", func := "exegesis/exegesislaw12.ImmAlone", spec := "immAlone", unfollowed := true, recurses := true, apart := false, narrowed := true }
def ImmAloneUptoSaid : Prop := immAloneUptoRow.holds Tryz.pinned (OpenSpec.upto immAloneSpec)

end Rows
end Go.Proofs.YthafjhelijmpcaaGreat
