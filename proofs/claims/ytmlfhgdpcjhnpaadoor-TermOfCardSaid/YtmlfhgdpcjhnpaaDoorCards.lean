/-
  DERIVED. GIVEN WITH THE SEED: THE CARDS: each row of YtmlfhgdpcjhnpaaDoorRows.lean that lists a variable, with what it lists TIED to the program's text (the seventh form; the later family's looks); each row that meets fmt, with fmt's text TOLD by the authors' own Lean function (tested against real Go, not proved from fmt's source: count such statements apart). THE CARD IS WHAT COUNTS. Prove the row's statement (the work); the ties are given (YtmlfhgdpcjhnpaaDoorTie.lean); close each card by the builder's one call (the guide's Derived/Test/ToyasCard.lean, 'card_holds'). Laid BY PROGRAM, IN A SANDBOX (cutbox-door.mjs). By AI agents, Wed Nov 11 2026. No macro, syntax, notation, axiom, sorry.
-/
import Derived.Test.YtmlfhgdpcjhnpaaDoorRows
import GoSem.ClaimSeven
namespace Go.Proofs.YtmlfhgdpcjhnpaaDoor
namespace Rows

/-- THE TIED CARD OF 'exegesislaw22.TermNumbers'. -/
def termNumbersCard : Claim7 := { stood := { row := termNumbersRow, standIns := [], harness := (true, "6e3ec354280f8f6f5cbb1632e4c613f19964cf77be59f3daddfd06d3a29cfe4f"), looks := false }, kinds := [], alts := [], laidByText := true, laidKinds := [.data, .data, .data], laidTests := true, laidLooks := .later }
def TermNumbersCardSaid : Prop := Claim7.holds Tryd.pinned (.plain (OpenSpec.ofChange termNumbersSpec)) termNumbersCard

/-- THE TIED CARD OF 'exegesislaw22.TermMakes'. -/
def termMakesCard : Claim7 := { stood := { row := termMakesRow, standIns := [], harness := (true, "6e3ec354280f8f6f5cbb1632e4c613f19964cf77be59f3daddfd06d3a29cfe4f"), looks := false }, kinds := [], alts := [], laidByText := true, laidKinds := [.data, .data, .data], laidTests := true, laidLooks := .later }
def TermMakesCardSaid : Prop := Claim7.holds Tryd.pinned (.plain (OpenSpec.ofChange termMakesSpec)) termMakesCard

/-- THE TIED CARD OF 'exegesislaw22.TermNorms'. -/
def termNormsCard : Claim7 := { stood := { row := termNormsRow, standIns := [], harness := (true, "6e3ec354280f8f6f5cbb1632e4c613f19964cf77be59f3daddfd06d3a29cfe4f"), looks := false }, kinds := [], alts := [], laidByText := true, laidKinds := [.data, .data, .data], laidTests := true, laidLooks := .later }
def TermNormsCardSaid : Prop := Claim7.holds Tryd.pinned (.plain (OpenSpec.ofChange termNormsSpec)) termNormsCard

/-- THE TIED CARD OF 'exegesislaw22.TermSums'. -/
def termSumsCard : Claim7 := { stood := { row := termSumsRow, standIns := [], harness := (true, "6e3ec354280f8f6f5cbb1632e4c613f19964cf77be59f3daddfd06d3a29cfe4f"), looks := false }, kinds := [], alts := [], laidByText := true, laidKinds := [.data, .data, .data], laidTests := true, laidLooks := .later }
def TermSumsCardSaid : Prop := Claim7.holds Tryd.pinned (.plain (OpenSpec.ofChange termSumsSpec)) termSumsCard

/-- THE TIED CARD OF 'exegesislaw22.TermOf'. -/
def termOfCard : Claim7 := { stood := { row := termOfRow, standIns := [], harness := (true, "6e3ec354280f8f6f5cbb1632e4c613f19964cf77be59f3daddfd06d3a29cfe4f"), looks := false }, kinds := [], alts := [], laidByText := true, laidKinds := [.data, .data, .data], laidTests := true, laidLooks := .later }
def TermOfCardSaid : Prop := Claim7.holds Tryd.pinned (.plain (OpenSpec.ofChange termOfSpec)) termOfCard

/-- THE TIED CARD OF 'exegesislaw23.SymexCounts'. -/
def symexCountsCard : Claim7 := { stood := { row := symexCountsRow, standIns := [], harness := (true, "6e3ec354280f8f6f5cbb1632e4c613f19964cf77be59f3daddfd06d3a29cfe4f"), looks := false }, kinds := [], alts := [], laidByText := true, laidKinds := [.data, .data, .data], laidTests := true, laidLooks := .later }
def SymexCountsCardSaid : Prop := Claim7.holds Tryd.pinned (.plain (OpenSpec.ofChange symexCountsSpec)) symexCountsCard

/-- THE TIED CARD OF 'exegesislaw23.SymexBig'. -/
def symexBigCard : Claim7 := { stood := { row := symexBigRow, standIns := [], harness := (true, "6e3ec354280f8f6f5cbb1632e4c613f19964cf77be59f3daddfd06d3a29cfe4f"), looks := false }, kinds := [], alts := [], laidByText := true, laidKinds := [.data, .data, .data], laidTests := true, laidLooks := .later }
def SymexBigCardSaid : Prop := Claim7.holds Tryd.pinned (.plain (OpenSpec.ofChange symexBigSpec)) symexBigCard

/-- THE TIED CARD OF 'exegesislaw23.SymexLess'. -/
def symexLessCard : Claim7 := { stood := { row := symexLessRow, standIns := [], harness := (true, "6e3ec354280f8f6f5cbb1632e4c613f19964cf77be59f3daddfd06d3a29cfe4f"), looks := false }, kinds := [], alts := [], laidByText := true, laidKinds := [.data, .data, .data], laidTests := true, laidLooks := .later }
def SymexLessCardSaid : Prop := Claim7.holds Tryd.pinned (.plain (OpenSpec.ofChange symexLessSpec)) symexLessCard

/-- THE SECOND FORM's CARD OF 'exegesislaw22.TermNumbers'. -/
def termNumbersUptoCard : Claim7 := { stood := { row := termNumbersUptoRow, standIns := [], harness := (true, "6e3ec354280f8f6f5cbb1632e4c613f19964cf77be59f3daddfd06d3a29cfe4f"), looks := false }, kinds := [], alts := [], laidByText := true, laidKinds := [.data, .data, .data], laidTests := true, laidLooks := .later }
def TermNumbersUptoCardSaid : Prop := Claim7.holds Tryd.pinned (.plain (OpenSpec.upto termNumbersSpec)) termNumbersUptoCard

/-- THE SECOND FORM's CARD OF 'exegesislaw22.TermMakes'. -/
def termMakesUptoCard : Claim7 := { stood := { row := termMakesUptoRow, standIns := [], harness := (true, "6e3ec354280f8f6f5cbb1632e4c613f19964cf77be59f3daddfd06d3a29cfe4f"), looks := false }, kinds := [], alts := [], laidByText := true, laidKinds := [.data, .data, .data], laidTests := true, laidLooks := .later }
def TermMakesUptoCardSaid : Prop := Claim7.holds Tryd.pinned (.plain (OpenSpec.upto termMakesSpec)) termMakesUptoCard

/-- THE SECOND FORM's CARD OF 'exegesislaw22.TermNorms'. -/
def termNormsUptoCard : Claim7 := { stood := { row := termNormsUptoRow, standIns := [], harness := (true, "6e3ec354280f8f6f5cbb1632e4c613f19964cf77be59f3daddfd06d3a29cfe4f"), looks := false }, kinds := [], alts := [], laidByText := true, laidKinds := [.data, .data, .data], laidTests := true, laidLooks := .later }
def TermNormsUptoCardSaid : Prop := Claim7.holds Tryd.pinned (.plain (OpenSpec.upto termNormsSpec)) termNormsUptoCard

/-- THE SECOND FORM's CARD OF 'exegesislaw22.TermSums'. -/
def termSumsUptoCard : Claim7 := { stood := { row := termSumsUptoRow, standIns := [], harness := (true, "6e3ec354280f8f6f5cbb1632e4c613f19964cf77be59f3daddfd06d3a29cfe4f"), looks := false }, kinds := [], alts := [], laidByText := true, laidKinds := [.data, .data, .data], laidTests := true, laidLooks := .later }
def TermSumsUptoCardSaid : Prop := Claim7.holds Tryd.pinned (.plain (OpenSpec.upto termSumsSpec)) termSumsUptoCard

/-- THE SECOND FORM's CARD OF 'exegesislaw22.TermOf'. -/
def termOfUptoCard : Claim7 := { stood := { row := termOfUptoRow, standIns := [], harness := (true, "6e3ec354280f8f6f5cbb1632e4c613f19964cf77be59f3daddfd06d3a29cfe4f"), looks := false }, kinds := [], alts := [], laidByText := true, laidKinds := [.data, .data, .data], laidTests := true, laidLooks := .later }
def TermOfUptoCardSaid : Prop := Claim7.holds Tryd.pinned (.plain (OpenSpec.upto termOfSpec)) termOfUptoCard

/-- THE SECOND FORM's CARD OF 'exegesislaw23.SymexCounts'. -/
def symexCountsUptoCard : Claim7 := { stood := { row := symexCountsUptoRow, standIns := [], harness := (true, "6e3ec354280f8f6f5cbb1632e4c613f19964cf77be59f3daddfd06d3a29cfe4f"), looks := false }, kinds := [], alts := [], laidByText := true, laidKinds := [.data, .data, .data], laidTests := true, laidLooks := .later }
def SymexCountsUptoCardSaid : Prop := Claim7.holds Tryd.pinned (.plain (OpenSpec.upto symexCountsSpec)) symexCountsUptoCard

/-- THE SECOND FORM's CARD OF 'exegesislaw23.SymexBig'. -/
def symexBigUptoCard : Claim7 := { stood := { row := symexBigUptoRow, standIns := [], harness := (true, "6e3ec354280f8f6f5cbb1632e4c613f19964cf77be59f3daddfd06d3a29cfe4f"), looks := false }, kinds := [], alts := [], laidByText := true, laidKinds := [.data, .data, .data], laidTests := true, laidLooks := .later }
def SymexBigUptoCardSaid : Prop := Claim7.holds Tryd.pinned (.plain (OpenSpec.upto symexBigSpec)) symexBigUptoCard

/-- THE SECOND FORM's CARD OF 'exegesislaw23.SymexLess'. -/
def symexLessUptoCard : Claim7 := { stood := { row := symexLessUptoRow, standIns := [], harness := (true, "6e3ec354280f8f6f5cbb1632e4c613f19964cf77be59f3daddfd06d3a29cfe4f"), looks := false }, kinds := [], alts := [], laidByText := true, laidKinds := [.data, .data, .data], laidTests := true, laidLooks := .later }
def SymexLessUptoCardSaid : Prop := Claim7.holds Tryd.pinned (.plain (OpenSpec.upto symexLessSpec)) symexLessUptoCard
end Rows
end Go.Proofs.YtmlfhgdpcjhnpaaDoor
