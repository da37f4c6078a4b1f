/-
  No cell of these rows narrows 'for every input' (looked for: loops, veiled, ifaces, maps, wideKeys, modest, calm, conditions, laid).
  DERIVED. THE GIVEN ROWS OF THIS SEAT. 3 by the template 'for every input the law returns true; each argument reads behind the call as it read before'; 0 by the template 'total and deterministic' (their statements: YthpfjbakmedfiaaTotals.lean).
  GIVEN WITH THE SEED: the statements are not yours to turn. If you find one false, say at which input.
  Laid BY PROGRAM, IN A SANDBOX (cutbox-rows.mjs): the forced cells as the released guide's own fill.sh prints them over the translation 733b6d8ea4e4095a… (all of the seat's roots in one cut). By AI agents, Wed Nov 11 2026. No macro, syntax, notation, axiom, sorry.
-/
import Derived.Test.YthpfjbakmedfiaaChecked
import GoSem.Claim
import GoSem.ClaimJoined
import GoSem.ClaimMapViews
import Derived.JoinedTies
import Derived.KernelRfl
namespace Go.Proofs.Ythpfjbakmedfiaa
/- THE CELL 'sum', in the pinned program and in every row, IS THE sha256 OF THE DUMP (.gsa) THAT YthpfjbakmedfiaaProg.lean LOADS. Nothing in Lean hashes anything: it is a label: what it is worth is what the hold of that sum in a sandbox is worth. -/
noncomputable def Try.pinned : Pinned := { name := "ythpfjbakmedfiaa", sum := "733b6d8ea4e4095a9cc63b27a41b9be468fb8d6fe80b3e9e91fecd7b13c1d415", checked := Try.checked }
namespace Rows
def none {H : Type} : Left H := { results := [], args := [] }

/-- 'exegesislaw08.MemLists': WHATEVER THE INPUT: true; the input reads as it did. -/
def memListsSpec : ChangeSpec := { name := "memLists", fn := fun _ => fun
  | [d1, d2, d3] => { results := [.lit (.bool true)], args := [d1, d2, d3] }
  | _ => none }
def memListsRow : OpenClaim := { program := "ythpfjbakmedfiaa", sum := "733b6d8ea4e4095a9cc63b27a41b9be468fb8d6fe80b3e9e91fecd7b13c1d415", func := "exegesis/exegesislaw08.MemLists", spec := "memLists", unfollowed := true, recurses := true, apart := false }
def MemListsSaid : Prop := memListsRow.holds Try.pinned (OpenSpec.ofChange memListsSpec)

/-- ITS FALSE NEIGHBOUR: 'it returns false'. Refute it at one input. -/
def memListsWrong : ChangeSpec := { name := "memLists", fn := fun _ => fun
  | [d1, d2, d3] => { results := [.lit (.bool false)], args := [d1, d2, d3] }
  | _ => none }
def MemListsWrongFalsely : Prop := memListsRow.holds Try.pinned (OpenSpec.ofChange memListsWrong)

/-- 'exegesislaw08.MemOrder': WHATEVER THE INPUT: true; the input reads as it did. -/
def memOrderSpec : ChangeSpec := { name := "memOrder", fn := fun _ => fun
  | [d] => { results := [.lit (.bool true)], args := [d] }
  | _ => none }
def memOrderRow : OpenClaim := { program := "ythpfjbakmedfiaa", sum := "733b6d8ea4e4095a9cc63b27a41b9be468fb8d6fe80b3e9e91fecd7b13c1d415", func := "exegesis/exegesislaw08.MemOrder", spec := "memOrder", unfollowed := true, recurses := true, apart := false }
def MemOrderSaid : Prop := memOrderRow.holds Try.pinned (OpenSpec.ofChange memOrderSpec)

/-- ITS FALSE NEIGHBOUR: 'it returns false'. Refute it at one input. -/
def memOrderWrong : ChangeSpec := { name := "memOrder", fn := fun _ => fun
  | [d] => { results := [.lit (.bool false)], args := [d] }
  | _ => none }
def MemOrderWrongFalsely : Prop := memOrderRow.holds Try.pinned (OpenSpec.ofChange memOrderWrong)

/-- 'exegesislaw08.MemSets': WHATEVER THE INPUT: true; the input reads as it did. -/
def memSetsSpec : ChangeSpec := { name := "memSets", fn := fun _ => fun
  | [d1, d2] => { results := [.lit (.bool true)], args := [d1, d2] }
  | _ => none }
def memSetsRow : OpenClaim := { program := "ythpfjbakmedfiaa", sum := "733b6d8ea4e4095a9cc63b27a41b9be468fb8d6fe80b3e9e91fecd7b13c1d415", func := "exegesis/exegesislaw08.MemSets", spec := "memSets", unfollowed := true, recurses := true, apart := false }
def MemSetsSaid : Prop := memSetsRow.holds Try.pinned (OpenSpec.ofChange memSetsSpec)

/-- ITS FALSE NEIGHBOUR: 'it returns false'. Refute it at one input. -/
def memSetsWrong : ChangeSpec := { name := "memSets", fn := fun _ => fun
  | [d1, d2] => { results := [.lit (.bool false)], args := [d1, d2] }
  | _ => none }
def MemSetsWrongFalsely : Prop := memSetsRow.holds Try.pinned (OpenSpec.ofChange memSetsWrong)

/- THE SECOND FORM. 'bulk': how many values and letters a reading holds, each counted each time it is reached (what is shared counts as often as it is met; a slice's spare places count too). A statement '..UptoSaid' is the law's where the arguments, and the package variables that the reading takes, are together of bulk at most 1048576: NARROWER than '..Said'. Prove '..Said' where nothing that the law and all that it calls make is longer than what came in: it says more and counts as full. Else prove '..UptoSaid'. A law counts once. -/
mutual
def uptoBulk {H : Type} : DataW H → Nat
  | .lit (.string bytes) => bytes.length + 1
  | .lit _ => 1
  | .nil => 1
  | .ptr d => uptoBulk d + 1
  | .slice elems spare => uptoBulkAll elems + uptoBulkAll spare + 1
  | .agg parts => uptoBulkAll parts + 1
  | .iface _ d => uptoBulk d + 1
  | .map entries => uptoBulkEntries entries + 1
  | .held _ => 1
def uptoBulkAll {H : Type} : List (DataW H) → Nat
  | [] => 0
  | d :: r => uptoBulk d + uptoBulkAll r
def uptoBulkEntries {H : Type} : List (Lit × DataW H) → Nat
  | [] => 0
  | x :: r => uptoBulkEntry x + uptoBulkEntries r
def uptoBulkEntry {H : Type} : Lit × DataW H → Nat
  | (.string bytes, d) => bytes.length + uptoBulk d + 1
  | (_, d) => uptoBulk d + 1
 end
def uptoSmall : (H : Type) → List (DataW H) → Bool := fun _ ds => decide (uptoBulkAll ds ≤ 1048576)
def OpenSpec.upto (s : _root_.Go.ChangeSpec) : _root_.Go.OpenSpec := { _root_.Go.OpenSpec.ofChange s with cond := some uptoSmall }

/-- 'exegesislaw08.MemLists', WHERE WHAT IT READS IS OF BULK AT MOST 1048576: true; the input reads as it did. -/
def memListsUptoRow : OpenClaim := { program := "ythpfjbakmedfiaa", sum := "733b6d8ea4e4095a9cc63b27a41b9be468fb8d6fe80b3e9e91fecd7b13c1d415", func := "exegesis/exegesislaw08.MemLists", spec := "memLists", unfollowed := true, recurses := true, apart := false, narrowed := true }
def MemListsUptoSaid : Prop := memListsUptoRow.holds Try.pinned (OpenSpec.upto memListsSpec)

/-- 'exegesislaw08.MemOrder', WHERE WHAT IT READS IS OF BULK AT MOST 1048576: true; the input reads as it did. -/
def memOrderUptoRow : OpenClaim := { program := "ythpfjbakmedfiaa", sum := "733b6d8ea4e4095a9cc63b27a41b9be468fb8d6fe80b3e9e91fecd7b13c1d415", func := "exegesis/exegesislaw08.MemOrder", spec := "memOrder", unfollowed := true, recurses := true, apart := false, narrowed := true }
def MemOrderUptoSaid : Prop := memOrderUptoRow.holds Try.pinned (OpenSpec.upto memOrderSpec)

/-- 'exegesislaw08.MemSets', WHERE WHAT IT READS IS OF BULK AT MOST 1048576: true; the input reads as it did. -/
def memSetsUptoRow : OpenClaim := { program := "ythpfjbakmedfiaa", sum := "733b6d8ea4e4095a9cc63b27a41b9be468fb8d6fe80b3e9e91fecd7b13c1d415", func := "exegesis/exegesislaw08.MemSets", spec := "memSets", unfollowed := true, recurses := true, apart := false, narrowed := true }
def MemSetsUptoSaid : Prop := memSetsUptoRow.holds Try.pinned (OpenSpec.upto memSetsSpec)

end Rows
end Go.Proofs.Ythpfjbakmedfiaa
