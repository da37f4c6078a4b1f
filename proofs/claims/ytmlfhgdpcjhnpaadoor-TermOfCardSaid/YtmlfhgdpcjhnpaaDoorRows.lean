/-
  NARROWER THAN 'FOR EVERY INPUT', by the rows' own cells (each row's printed sentence says how): TermNumbers: laid · TermMakes: laid · TermNorms: laid · TermSums: laid · TermOf: laid · SymexCounts: laid · SymexBig: laid · SymexLess: laid.
  DERIVED. THE GIVEN ROWS OF THIS SEAT. 8 by the template 'for every input the law returns true; each argument reads behind the call as it read before'; 0 by the template 'total and deterministic' (their statements: YtmlfhgdpcjhnpaaDoorTotals.lean).
  GIVEN WITH THE SEED: the statements are not yours to turn. If you find one false, say at which input.
  Laid BY PROGRAM, IN A SANDBOX (cutbox-rows.mjs): the forced cells as the released guide's own fill.sh prints them over the translation 40c2cfa4cd99d91d… (all of the seat's roots in one cut). By AI agents, Wed Nov 11 2026. No macro, syntax, notation, axiom, sorry.
-/
import Derived.Test.YtmlfhgdpcjhnpaaDoorChecked
import GoSem.Claim
import GoSem.ClaimJoined
import GoSem.ClaimMapViews
import Derived.JoinedTies
import Derived.KernelRfl
namespace Go.Proofs.YtmlfhgdpcjhnpaaDoor
/- THE CELL 'sum', in the pinned program and in every row, IS THE sha256 OF THE DUMP (.gsa) THAT YtmlfhgdpcjhnpaaDoorProg.lean LOADS. Nothing in Lean hashes anything: it is a label: what it is worth is what the hold of that sum in a sandbox is worth. -/
noncomputable def Tryd.pinned : Pinned := { name := "ytmlfhgdpcjhnpaadoor", sum := "40c2cfa4cd99d91dc0dee820ced5ca3381f9d22e22e93c0a49c27b976ccdf70a", checked := Tryd.checked }
namespace Rows
def none {H : Type} : Left H := { results := [], args := [] }

/- WHAT THE LISTED PACKAGE-LEVEL VARIABLES READ AS WHEN THE CALL BEGINS. Each datum BY PROGRAM (the guide's laid-datum.mjs) off the statement by which the dump's own 'gosem.cut.vars' lays the variable. In a bare row this is a premise. The card (YtmlfhgdpcjhnpaaDoorCards.lean) ties it to the program's text. -/
def laid_math_bits_deBruijn32tab {H : Type} : DataW H := .agg [.lit (.int .u8 0), .lit (.int .u8 1), .lit (.int .u8 28), .lit (.int .u8 2), .lit (.int .u8 29), .lit (.int .u8 14), .lit (.int .u8 24), .lit (.int .u8 3), .lit (.int .u8 30), .lit (.int .u8 22), .lit (.int .u8 20), .lit (.int .u8 15), .lit (.int .u8 25), .lit (.int .u8 17), .lit (.int .u8 4), .lit (.int .u8 8), .lit (.int .u8 31), .lit (.int .u8 27), .lit (.int .u8 13), .lit (.int .u8 23), .lit (.int .u8 21), .lit (.int .u8 19), .lit (.int .u8 16), .lit (.int .u8 7), .lit (.int .u8 26), .lit (.int .u8 12), .lit (.int .u8 18), .lit (.int .u8 6), .lit (.int .u8 11), .lit (.int .u8 5), .lit (.int .u8 10), .lit (.int .u8 9)]
def laid_math_bits_deBruijn64tab {H : Type} : DataW H := .agg [.lit (.int .u8 0), .lit (.int .u8 1), .lit (.int .u8 56), .lit (.int .u8 2), .lit (.int .u8 57), .lit (.int .u8 49), .lit (.int .u8 28), .lit (.int .u8 3), .lit (.int .u8 61), .lit (.int .u8 58), .lit (.int .u8 42), .lit (.int .u8 50), .lit (.int .u8 38), .lit (.int .u8 29), .lit (.int .u8 17), .lit (.int .u8 4), .lit (.int .u8 62), .lit (.int .u8 47), .lit (.int .u8 59), .lit (.int .u8 36), .lit (.int .u8 45), .lit (.int .u8 43), .lit (.int .u8 51), .lit (.int .u8 22), .lit (.int .u8 53), .lit (.int .u8 39), .lit (.int .u8 33), .lit (.int .u8 30), .lit (.int .u8 24), .lit (.int .u8 18), .lit (.int .u8 12), .lit (.int .u8 5), .lit (.int .u8 63), .lit (.int .u8 55), .lit (.int .u8 48), .lit (.int .u8 27), .lit (.int .u8 60), .lit (.int .u8 41), .lit (.int .u8 37), .lit (.int .u8 16), .lit (.int .u8 46), .lit (.int .u8 35), .lit (.int .u8 44), .lit (.int .u8 21), .lit (.int .u8 52), .lit (.int .u8 32), .lit (.int .u8 23), .lit (.int .u8 11), .lit (.int .u8 54), .lit (.int .u8 26), .lit (.int .u8 40), .lit (.int .u8 15), .lit (.int .u8 34), .lit (.int .u8 20), .lit (.int .u8 31), .lit (.int .u8 10), .lit (.int .u8 25), .lit (.int .u8 14), .lit (.int .u8 19), .lit (.int .u8 9), .lit (.int .u8 13), .lit (.int .u8 8), .lit (.int .u8 7), .lit (.int .u8 6)]
def laid_internal_strconv_uint64pow10 {H : Type} : DataW H := .agg [.lit (.int .u64 1), .lit (.int .u64 10), .lit (.int .u64 100), .lit (.int .u64 1000), .lit (.int .u64 10000), .lit (.int .u64 100000), .lit (.int .u64 1000000), .lit (.int .u64 10000000), .lit (.int .u64 100000000), .lit (.int .u64 1000000000), .lit (.int .u64 10000000000), .lit (.int .u64 100000000000), .lit (.int .u64 1000000000000), .lit (.int .u64 10000000000000), .lit (.int .u64 100000000000000), .lit (.int .u64 1000000000000000), .lit (.int .u64 10000000000000000), .lit (.int .u64 100000000000000000), .lit (.int .u64 1000000000000000000), .lit (.int .u64 10000000000000000000)]

/-- 'exegesislaw22.TermNumbers': WHATEVER THE INPUT: true; the input reads as it did. -/
def termNumbersSpec : ChangeSpec := { name := "termNumbers", fn := fun _ => fun
  | [d1, d2] => { results := [.lit (.bool true)], args := [d1, d2] }
  | _ => none }
def termNumbersRow : OpenClaim := { program := "ytmlfhgdpcjhnpaadoor", sum := "40c2cfa4cd99d91dc0dee820ced5ca3381f9d22e22e93c0a49c27b976ccdf70a", func := "exegesis/exegesislaw22.TermNumbers", spec := "termNumbers", unfollowed := true, recurses := true, named := ["internal/strconv.uint64pow10", "math/bits.deBruijn32tab", "math/bits.deBruijn64tab"], apart := false, laid := [("math/bits.deBruijn32tab", laid_math_bits_deBruijn32tab), ("math/bits.deBruijn64tab", laid_math_bits_deBruijn64tab), ("internal/strconv.uint64pow10", laid_internal_strconv_uint64pow10)] }
def TermNumbersSaid : Prop := termNumbersRow.holds Tryd.pinned (OpenSpec.ofChange termNumbersSpec)

/-- ITS FALSE NEIGHBOUR: 'it returns false'. Refute it at one input. -/
def termNumbersWrong : ChangeSpec := { name := "termNumbers", fn := fun _ => fun
  | [d1, d2] => { results := [.lit (.bool false)], args := [d1, d2] }
  | _ => none }
def TermNumbersWrongFalsely : Prop := termNumbersRow.holds Tryd.pinned (OpenSpec.ofChange termNumbersWrong)

/-- 'exegesislaw22.TermMakes': WHATEVER THE INPUT: true; the input reads as it did. -/
def termMakesSpec : ChangeSpec := { name := "termMakes", fn := fun _ => fun
  | [d1, d2, d3, d4] => { results := [.lit (.bool true)], args := [d1, d2, d3, d4] }
  | _ => none }
def termMakesRow : OpenClaim := { program := "ytmlfhgdpcjhnpaadoor", sum := "40c2cfa4cd99d91dc0dee820ced5ca3381f9d22e22e93c0a49c27b976ccdf70a", func := "exegesis/exegesislaw22.TermMakes", spec := "termMakes", unfollowed := true, recurses := true, named := ["internal/strconv.uint64pow10", "math/bits.deBruijn32tab", "math/bits.deBruijn64tab"], apart := false, laid := [("math/bits.deBruijn32tab", laid_math_bits_deBruijn32tab), ("math/bits.deBruijn64tab", laid_math_bits_deBruijn64tab), ("internal/strconv.uint64pow10", laid_internal_strconv_uint64pow10)] }
def TermMakesSaid : Prop := termMakesRow.holds Tryd.pinned (OpenSpec.ofChange termMakesSpec)

/-- ITS FALSE NEIGHBOUR: 'it returns false'. Refute it at one input. -/
def termMakesWrong : ChangeSpec := { name := "termMakes", fn := fun _ => fun
  | [d1, d2, d3, d4] => { results := [.lit (.bool false)], args := [d1, d2, d3, d4] }
  | _ => none }
def TermMakesWrongFalsely : Prop := termMakesRow.holds Tryd.pinned (OpenSpec.ofChange termMakesWrong)

/-- 'exegesislaw22.TermNorms': WHATEVER THE INPUT: true; the input reads as it did. -/
def termNormsSpec : ChangeSpec := { name := "termNorms", fn := fun _ => fun
  | [d1, d2, d3] => { results := [.lit (.bool true)], args := [d1, d2, d3] }
  | _ => none }
def termNormsRow : OpenClaim := { program := "ytmlfhgdpcjhnpaadoor", sum := "40c2cfa4cd99d91dc0dee820ced5ca3381f9d22e22e93c0a49c27b976ccdf70a", func := "exegesis/exegesislaw22.TermNorms", spec := "termNorms", unfollowed := true, recurses := true, named := ["internal/strconv.uint64pow10", "math/bits.deBruijn32tab", "math/bits.deBruijn64tab"], apart := false, laid := [("math/bits.deBruijn32tab", laid_math_bits_deBruijn32tab), ("math/bits.deBruijn64tab", laid_math_bits_deBruijn64tab), ("internal/strconv.uint64pow10", laid_internal_strconv_uint64pow10)] }
def TermNormsSaid : Prop := termNormsRow.holds Tryd.pinned (OpenSpec.ofChange termNormsSpec)

/-- ITS FALSE NEIGHBOUR: 'it returns false'. Refute it at one input. -/
def termNormsWrong : ChangeSpec := { name := "termNorms", fn := fun _ => fun
  | [d1, d2, d3] => { results := [.lit (.bool false)], args := [d1, d2, d3] }
  | _ => none }
def TermNormsWrongFalsely : Prop := termNormsRow.holds Tryd.pinned (OpenSpec.ofChange termNormsWrong)

/-- 'exegesislaw22.TermSums': WHATEVER THE INPUT: true; the input reads as it did. -/
def termSumsSpec : ChangeSpec := { name := "termSums", fn := fun _ => fun
  | [d1, d2] => { results := [.lit (.bool true)], args := [d1, d2] }
  | _ => none }
def termSumsRow : OpenClaim := { program := "ytmlfhgdpcjhnpaadoor", sum := "40c2cfa4cd99d91dc0dee820ced5ca3381f9d22e22e93c0a49c27b976ccdf70a", func := "exegesis/exegesislaw22.TermSums", spec := "termSums", unfollowed := true, recurses := true, named := ["internal/strconv.uint64pow10", "math/bits.deBruijn32tab", "math/bits.deBruijn64tab"], apart := false, laid := [("math/bits.deBruijn32tab", laid_math_bits_deBruijn32tab), ("math/bits.deBruijn64tab", laid_math_bits_deBruijn64tab), ("internal/strconv.uint64pow10", laid_internal_strconv_uint64pow10)] }
def TermSumsSaid : Prop := termSumsRow.holds Tryd.pinned (OpenSpec.ofChange termSumsSpec)

/-- ITS FALSE NEIGHBOUR: 'it returns false'. Refute it at one input. -/
def termSumsWrong : ChangeSpec := { name := "termSums", fn := fun _ => fun
  | [d1, d2] => { results := [.lit (.bool false)], args := [d1, d2] }
  | _ => none }
def TermSumsWrongFalsely : Prop := termSumsRow.holds Tryd.pinned (OpenSpec.ofChange termSumsWrong)

/-- 'exegesislaw22.TermOf': WHATEVER THE INPUT: true; the input reads as it did. -/
def termOfSpec : ChangeSpec := { name := "termOf", fn := fun _ => fun
  | [d1, d2] => { results := [.lit (.bool true)], args := [d1, d2] }
  | _ => none }
def termOfRow : OpenClaim := { program := "ytmlfhgdpcjhnpaadoor", sum := "40c2cfa4cd99d91dc0dee820ced5ca3381f9d22e22e93c0a49c27b976ccdf70a", func := "exegesis/exegesislaw22.TermOf", spec := "termOf", unfollowed := true, recurses := true, named := ["internal/strconv.uint64pow10", "math/bits.deBruijn32tab", "math/bits.deBruijn64tab"], apart := false, laid := [("math/bits.deBruijn32tab", laid_math_bits_deBruijn32tab), ("math/bits.deBruijn64tab", laid_math_bits_deBruijn64tab), ("internal/strconv.uint64pow10", laid_internal_strconv_uint64pow10)] }
def TermOfSaid : Prop := termOfRow.holds Tryd.pinned (OpenSpec.ofChange termOfSpec)

/-- ITS FALSE NEIGHBOUR: 'it returns false'. Refute it at one input. -/
def termOfWrong : ChangeSpec := { name := "termOf", fn := fun _ => fun
  | [d1, d2] => { results := [.lit (.bool false)], args := [d1, d2] }
  | _ => none }
def TermOfWrongFalsely : Prop := termOfRow.holds Tryd.pinned (OpenSpec.ofChange termOfWrong)

/-- 'exegesislaw23.SymexCounts': WHATEVER THE INPUT: true; the input reads as it did. -/
def symexCountsSpec : ChangeSpec := { name := "symexCounts", fn := fun _ => fun
  | [d1, d2] => { results := [.lit (.bool true)], args := [d1, d2] }
  | _ => none }
def symexCountsRow : OpenClaim := { program := "ytmlfhgdpcjhnpaadoor", sum := "40c2cfa4cd99d91dc0dee820ced5ca3381f9d22e22e93c0a49c27b976ccdf70a", func := "exegesis/exegesislaw23.SymexCounts", spec := "symexCounts", unfollowed := true, recurses := true, named := ["internal/strconv.uint64pow10", "math/bits.deBruijn32tab", "math/bits.deBruijn64tab"], apart := false, laid := [("math/bits.deBruijn32tab", laid_math_bits_deBruijn32tab), ("math/bits.deBruijn64tab", laid_math_bits_deBruijn64tab), ("internal/strconv.uint64pow10", laid_internal_strconv_uint64pow10)] }
def SymexCountsSaid : Prop := symexCountsRow.holds Tryd.pinned (OpenSpec.ofChange symexCountsSpec)

/-- ITS FALSE NEIGHBOUR: 'it returns false'. Refute it at one input. -/
def symexCountsWrong : ChangeSpec := { name := "symexCounts", fn := fun _ => fun
  | [d1, d2] => { results := [.lit (.bool false)], args := [d1, d2] }
  | _ => none }
def SymexCountsWrongFalsely : Prop := symexCountsRow.holds Tryd.pinned (OpenSpec.ofChange symexCountsWrong)

/-- 'exegesislaw23.SymexBig': WHATEVER THE INPUT: true; the input reads as it did. -/
def symexBigSpec : ChangeSpec := { name := "symexBig", fn := fun _ => fun
  | [d] => { results := [.lit (.bool true)], args := [d] }
  | _ => none }
def symexBigRow : OpenClaim := { program := "ytmlfhgdpcjhnpaadoor", sum := "40c2cfa4cd99d91dc0dee820ced5ca3381f9d22e22e93c0a49c27b976ccdf70a", func := "exegesis/exegesislaw23.SymexBig", spec := "symexBig", unfollowed := true, recurses := true, named := ["internal/strconv.uint64pow10", "math/bits.deBruijn32tab", "math/bits.deBruijn64tab"], apart := false, laid := [("math/bits.deBruijn32tab", laid_math_bits_deBruijn32tab), ("math/bits.deBruijn64tab", laid_math_bits_deBruijn64tab), ("internal/strconv.uint64pow10", laid_internal_strconv_uint64pow10)] }
def SymexBigSaid : Prop := symexBigRow.holds Tryd.pinned (OpenSpec.ofChange symexBigSpec)

/-- ITS FALSE NEIGHBOUR: 'it returns false'. Refute it at one input. -/
def symexBigWrong : ChangeSpec := { name := "symexBig", fn := fun _ => fun
  | [d] => { results := [.lit (.bool false)], args := [d] }
  | _ => none }
def SymexBigWrongFalsely : Prop := symexBigRow.holds Tryd.pinned (OpenSpec.ofChange symexBigWrong)

/-- 'exegesislaw23.SymexLess': WHATEVER THE INPUT: true; the input reads as it did. -/
def symexLessSpec : ChangeSpec := { name := "symexLess", fn := fun _ => fun
  | [d] => { results := [.lit (.bool true)], args := [d] }
  | _ => none }
def symexLessRow : OpenClaim := { program := "ytmlfhgdpcjhnpaadoor", sum := "40c2cfa4cd99d91dc0dee820ced5ca3381f9d22e22e93c0a49c27b976ccdf70a", func := "exegesis/exegesislaw23.SymexLess", spec := "symexLess", unfollowed := true, recurses := true, named := ["internal/strconv.uint64pow10", "math/bits.deBruijn32tab", "math/bits.deBruijn64tab"], apart := false, laid := [("math/bits.deBruijn32tab", laid_math_bits_deBruijn32tab), ("math/bits.deBruijn64tab", laid_math_bits_deBruijn64tab), ("internal/strconv.uint64pow10", laid_internal_strconv_uint64pow10)] }
def SymexLessSaid : Prop := symexLessRow.holds Tryd.pinned (OpenSpec.ofChange symexLessSpec)

/-- ITS FALSE NEIGHBOUR: 'it returns false'. Refute it at one input. -/
def symexLessWrong : ChangeSpec := { name := "symexLess", fn := fun _ => fun
  | [d] => { results := [.lit (.bool false)], args := [d] }
  | _ => none }
def SymexLessWrongFalsely : Prop := symexLessRow.holds Tryd.pinned (OpenSpec.ofChange symexLessWrong)

/- THE SECOND FORM. 'bulk': how many values and letters a reading holds, each counted each time it is reached (what is shared counts as often as it is met; a slice's spare places count too). A statement '..UptoSaid' is the law's where the arguments, and the package variables that the reading takes, are together of bulk at most 1048576: NARROWER than '..Said'. Prove '..Said' where nothing that the law and all that it calls make is longer than what came in: it says more and counts as full. Else prove '..UptoSaid'. A law counts once. -/
mutual
def uptoBulk {H : Type} : DataW H → Nat
  | .lit (.string bytes) => bytes.length + 1
  | .lit _ => 1
  | .nil => 1
  | .ptr d => uptoBulk d + 1
  | .slice elems spare => uptoBulkAll elems + uptoBulkAll spare + 1
  | .agg parts => uptoBulkAll parts + 1
  | .iface _ d => uptoBulk d + 1
  | .map entries => uptoBulkEntries entries + 1
  | .held _ => 1
def uptoBulkAll {H : Type} : List (DataW H) → Nat
  | [] => 0
  | d :: r => uptoBulk d + uptoBulkAll r
def uptoBulkEntries {H : Type} : List (Lit × DataW H) → Nat
  | [] => 0
  | x :: r => uptoBulkEntry x + uptoBulkEntries r
def uptoBulkEntry {H : Type} : Lit × DataW H → Nat
  | (.string bytes, d) => bytes.length + uptoBulk d + 1
  | (_, d) => uptoBulk d + 1
 end
def uptoSmall : (H : Type) → List (DataW H) → Bool := fun _ ds => decide (uptoBulkAll ds ≤ 1048576)
def OpenSpec.upto (s : _root_.Go.ChangeSpec) : _root_.Go.OpenSpec := { _root_.Go.OpenSpec.ofChange s with cond := some uptoSmall }

/-- 'exegesislaw22.TermNumbers', WHERE WHAT IT READS IS OF BULK AT MOST 1048576: true; the input reads as it did. -/
def termNumbersUptoRow : OpenClaim := { program := "ytmlfhgdpcjhnpaadoor", sum := "40c2cfa4cd99d91dc0dee820ced5ca3381f9d22e22e93c0a49c27b976ccdf70a", func := "exegesis/exegesislaw22.TermNumbers", spec := "termNumbers", unfollowed := true, recurses := true, named := ["internal/strconv.uint64pow10", "math/bits.deBruijn32tab", "math/bits.deBruijn64tab"], apart := false, laid := [("math/bits.deBruijn32tab", laid_math_bits_deBruijn32tab), ("math/bits.deBruijn64tab", laid_math_bits_deBruijn64tab), ("internal/strconv.uint64pow10", laid_internal_strconv_uint64pow10)], narrowed := true }
def TermNumbersUptoSaid : Prop := termNumbersUptoRow.holds Tryd.pinned (OpenSpec.upto termNumbersSpec)

/-- 'exegesislaw22.TermMakes', WHERE WHAT IT READS IS OF BULK AT MOST 1048576: true; the input reads as it did. -/
def termMakesUptoRow : OpenClaim := { program := "ytmlfhgdpcjhnpaadoor", sum := "40c2cfa4cd99d91dc0dee820ced5ca3381f9d22e22e93c0a49c27b976ccdf70a", func := "exegesis/exegesislaw22.TermMakes", spec := "termMakes", unfollowed := true, recurses := true, named := ["internal/strconv.uint64pow10", "math/bits.deBruijn32tab", "math/bits.deBruijn64tab"], apart := false, laid := [("math/bits.deBruijn32tab", laid_math_bits_deBruijn32tab), ("math/bits.deBruijn64tab", laid_math_bits_deBruijn64tab), ("internal/strconv.uint64pow10", laid_internal_strconv_uint64pow10)], narrowed := true }
def TermMakesUptoSaid : Prop := termMakesUptoRow.holds Tryd.pinned (OpenSpec.upto termMakesSpec)

/-- 'exegesislaw22.TermNorms', WHERE WHAT IT READS IS OF BULK AT MOST 1048576: true; the input reads as it did. -/
def termNormsUptoRow : OpenClaim := { program := "ytmlfhgdpcjhnpaadoor", sum := "40c2cfa4cd99d91dc0dee820ced5ca3381f9d22e22e93c0a49c27b976ccdf70a", func := "exegesis/exegesislaw22.TermNorms", spec := "termNorms", unfollowed := true, recurses := true, named := ["internal/strconv.uint64pow10", "math/bits.deBruijn32tab", "math/bits.deBruijn64tab"], apart := false, laid := [("math/bits.deBruijn32tab", laid_math_bits_deBruijn32tab), ("math/bits.deBruijn64tab", laid_math_bits_deBruijn64tab), ("internal/strconv.uint64pow10", laid_internal_strconv_uint64pow10)], narrowed := true }
def TermNormsUptoSaid : Prop := termNormsUptoRow.holds Tryd.pinned (OpenSpec.upto termNormsSpec)

/-- 'exegesislaw22.TermSums', WHERE WHAT IT READS IS OF BULK AT MOST 1048576: true; the input reads as it did. -/
def termSumsUptoRow : OpenClaim := { program := "ytmlfhgdpcjhnpaadoor", sum := "40c2cfa4cd99d91dc0dee820ced5ca3381f9d22e22e93c0a49c27b976ccdf70a", func := "exegesis/exegesislaw22.TermSums", spec := "termSums", unfollowed := true, recurses := true, named := ["internal/strconv.uint64pow10", "math/bits.deBruijn32tab", "math/bits.deBruijn64tab"], apart := false, laid := [("math/bits.deBruijn32tab", laid_math_bits_deBruijn32tab), ("math/bits.deBruijn64tab", laid_math_bits_deBruijn64tab), ("internal/strconv.uint64pow10", laid_internal_strconv_uint64pow10)], narrowed := true }
def TermSumsUptoSaid : Prop := termSumsUptoRow.holds Tryd.pinned (OpenSpec.upto termSumsSpec)

/-- 'exegesislaw22.TermOf', WHERE WHAT IT READS IS OF BULK AT MOST 1048576: true; the input reads as it did. -/
def termOfUptoRow : OpenClaim := { program := "ytmlfhgdpcjhnpaadoor", sum := "40c2cfa4cd99d91dc0dee820ced5ca3381f9d22e22e93c0a49c27b976ccdf70a", func := "exegesis/exegesislaw22.TermOf", spec := "termOf", unfollowed := true, recurses := true, named := ["internal/strconv.uint64pow10", "math/bits.deBruijn32tab", "math/bits.deBruijn64tab"], apart := false, laid := [("math/bits.deBruijn32tab", laid_math_bits_deBruijn32tab), ("math/bits.deBruijn64tab", laid_math_bits_deBruijn64tab), ("internal/strconv.uint64pow10", laid_internal_strconv_uint64pow10)], narrowed := true }
def TermOfUptoSaid : Prop := termOfUptoRow.holds Tryd.pinned (OpenSpec.upto termOfSpec)

/-- 'exegesislaw23.SymexCounts', WHERE WHAT IT READS IS OF BULK AT MOST 1048576: true; the input reads as it did. -/
def symexCountsUptoRow : OpenClaim := { program := "ytmlfhgdpcjhnpaadoor", sum := "40c2cfa4cd99d91dc0dee820ced5ca3381f9d22e22e93c0a49c27b976ccdf70a", func := "exegesis/exegesislaw23.SymexCounts", spec := "symexCounts", unfollowed := true, recurses := true, named := ["internal/strconv.uint64pow10", "math/bits.deBruijn32tab", "math/bits.deBruijn64tab"], apart := false, laid := [("math/bits.deBruijn32tab", laid_math_bits_deBruijn32tab), ("math/bits.deBruijn64tab", laid_math_bits_deBruijn64tab), ("internal/strconv.uint64pow10", laid_internal_strconv_uint64pow10)], narrowed := true }
def SymexCountsUptoSaid : Prop := symexCountsUptoRow.holds Tryd.pinned (OpenSpec.upto symexCountsSpec)

/-- 'exegesislaw23.SymexBig', WHERE WHAT IT READS IS OF BULK AT MOST 1048576: true; the input reads as it did. -/
def symexBigUptoRow : OpenClaim := { program := "ytmlfhgdpcjhnpaadoor", sum := "40c2cfa4cd99d91dc0dee820ced5ca3381f9d22e22e93c0a49c27b976ccdf70a", func := "exegesis/exegesislaw23.SymexBig", spec := "symexBig", unfollowed := true, recurses := true, named := ["internal/strconv.uint64pow10", "math/bits.deBruijn32tab", "math/bits.deBruijn64tab"], apart := false, laid := [("math/bits.deBruijn32tab", laid_math_bits_deBruijn32tab), ("math/bits.deBruijn64tab", laid_math_bits_deBruijn64tab), ("internal/strconv.uint64pow10", laid_internal_strconv_uint64pow10)], narrowed := true }
def SymexBigUptoSaid : Prop := symexBigUptoRow.holds Tryd.pinned (OpenSpec.upto symexBigSpec)

/-- 'exegesislaw23.SymexLess', WHERE WHAT IT READS IS OF BULK AT MOST 1048576: true; the input reads as it did. -/
def symexLessUptoRow : OpenClaim := { program := "ytmlfhgdpcjhnpaadoor", sum := "40c2cfa4cd99d91dc0dee820ced5ca3381f9d22e22e93c0a49c27b976ccdf70a", func := "exegesis/exegesislaw23.SymexLess", spec := "symexLess", unfollowed := true, recurses := true, named := ["internal/strconv.uint64pow10", "math/bits.deBruijn32tab", "math/bits.deBruijn64tab"], apart := false, laid := [("math/bits.deBruijn32tab", laid_math_bits_deBruijn32tab), ("math/bits.deBruijn64tab", laid_math_bits_deBruijn64tab), ("internal/strconv.uint64pow10", laid_internal_strconv_uint64pow10)], narrowed := true }
def SymexLessUptoSaid : Prop := symexLessUptoRow.holds Tryd.pinned (OpenSpec.upto symexLessSpec)

end Rows
end Go.Proofs.YtmlfhgdpcjhnpaaDoor
