/-
  DERIVED. GIVEN WITH THE SEED: THE CARDS: each row of YtkmpkcofddpdgaaDoorRows.lean that lists a variable, with what it lists TIED to the program's text (the seventh form; the later family's looks); each row that meets fmt, with fmt's text TOLD by the authors' own Lean function (tested against real Go, not proved from fmt's source: count such statements apart). THE CARD IS WHAT COUNTS. Prove the row's statement (the work); the ties are given (YtkmpkcofddpdgaaDoorTie.lean); close each card by the builder's one call (the guide's Derived/Test/ToyasCard.lean, 'card_holds'). Laid BY PROGRAM, IN A SANDBOX (cutbox-door.mjs). By AI agents, Wed Nov 11 2026. No macro, syntax, notation, axiom, sorry.
-/
import Derived.Test.YtkmpkcofddpdgaaDoorRows
import GoSem.ClaimSeven
namespace Go.Proofs.YtkmpkcofddpdgaaDoor
namespace Rows

/-- THE TIED CARD OF 'laws.FnExactGraphAt'. -/
def fnExactGraphAtCard : Claim7 := { stood := { row := fnExactGraphAtRow, standIns := [], harness := (true, "971f8321461d8b39183cbc46721a3159d909c3b939e1061bd20652640557f58a"), looks := false }, kinds := [], alts := [], laidByText := true, laidKinds := [.data], laidTests := true, laidLooks := .later }
def FnExactGraphAtCardSaid : Prop := Claim7.holds Tryd.pinned (.plain (OpenSpec.ofChange fnExactGraphAtSpec)) fnExactGraphAtCard

/-- THE TIED CARD OF 'laws.FnExactWordGirth'. -/
def fnExactWordGirthCard : Claim7 := { stood := { row := fnExactWordGirthRow, standIns := [], harness := (true, "971f8321461d8b39183cbc46721a3159d909c3b939e1061bd20652640557f58a"), looks := false }, kinds := [], alts := [], laidByText := true, laidKinds := [.data], laidTests := true, laidLooks := .later }
def FnExactWordGirthCardSaid : Prop := Claim7.holds Tryd.pinned (.plain (OpenSpec.ofChange fnExactWordGirthSpec)) fnExactWordGirthCard

/-- THE TIED CARD OF 'laws.FnExactIsAntipodal'. -/
def fnExactIsAntipodalCard : Claim7 := { stood := { row := fnExactIsAntipodalRow, standIns := [], harness := (true, "971f8321461d8b39183cbc46721a3159d909c3b939e1061bd20652640557f58a"), looks := false }, kinds := [], alts := [], laidByText := true, laidKinds := [.data], laidTests := true, laidLooks := .later }
def FnExactIsAntipodalCardSaid : Prop := Claim7.holds Tryd.pinned (.plain (OpenSpec.ofChange fnExactIsAntipodalSpec)) fnExactIsAntipodalCard

/-- THE TIED CARD OF 'laws.FnExactFitsBoth'. -/
def fnExactFitsBothCard : Claim7 := { stood := { row := fnExactFitsBothRow, standIns := [], harness := (true, "971f8321461d8b39183cbc46721a3159d909c3b939e1061bd20652640557f58a"), looks := false }, kinds := [], alts := [], laidByText := true, laidKinds := [.data], laidTests := true, laidLooks := .later }
def FnExactFitsBothCardSaid : Prop := Claim7.holds Tryd.pinned (.plain (OpenSpec.ofChange fnExactFitsBothSpec)) fnExactFitsBothCard

/-- THE TIED CARD OF 'laws.FnExactIsMooreDigraph'. -/
def fnExactIsMooreDigraphCard : Claim7 := { stood := { row := fnExactIsMooreDigraphRow, standIns := [], harness := (true, "971f8321461d8b39183cbc46721a3159d909c3b939e1061bd20652640557f58a"), looks := false }, kinds := [], alts := [], laidByText := true, laidKinds := [.data], laidTests := true, laidLooks := .later }
def FnExactIsMooreDigraphCardSaid : Prop := Claim7.holds Tryd.pinned (.plain (OpenSpec.ofChange fnExactIsMooreDigraphSpec)) fnExactIsMooreDigraphCard

/-- THE TIED CARD OF 'laws.FnExactIsDistanceRegular'. -/
def fnExactIsDistanceRegularCard : Claim7 := { stood := { row := fnExactIsDistanceRegularRow, standIns := [], harness := (true, "971f8321461d8b39183cbc46721a3159d909c3b939e1061bd20652640557f58a"), looks := false }, kinds := [], alts := [], laidByText := true, laidKinds := [.data], laidTests := true, laidLooks := .later }
def FnExactIsDistanceRegularCardSaid : Prop := Claim7.holds Tryd.pinned (.plain (OpenSpec.ofChange fnExactIsDistanceRegularSpec)) fnExactIsDistanceRegularCard

/-- THE TIED CARD OF 'laws.FnExactDefectOf'. -/
def fnExactDefectOfCard : Claim7 := { stood := { row := fnExactDefectOfRow, standIns := [], harness := (true, "971f8321461d8b39183cbc46721a3159d909c3b939e1061bd20652640557f58a"), looks := false }, kinds := [], alts := [], laidByText := true, laidKinds := [.data], laidTests := true, laidLooks := .later }
def FnExactDefectOfCardSaid : Prop := Claim7.holds Tryd.pinned (.plain (OpenSpec.ofChange fnExactDefectOfSpec)) fnExactDefectOfCard

/-- THE TIED CARD OF 'laws.FnExactExcessOf'. -/
def fnExactExcessOfCard : Claim7 := { stood := { row := fnExactExcessOfRow, standIns := [], harness := (true, "971f8321461d8b39183cbc46721a3159d909c3b939e1061bd20652640557f58a"), looks := false }, kinds := [], alts := [], laidByText := true, laidKinds := [.data], laidTests := true, laidLooks := .later }
def FnExactExcessOfCardSaid : Prop := Claim7.holds Tryd.pinned (.plain (OpenSpec.ofChange fnExactExcessOfSpec)) fnExactExcessOfCard

/-- THE TIED CARD OF 'laws.FnExactArraysOf'. -/
def fnExactArraysOfCard : Claim7 := { stood := { row := fnExactArraysOfRow, standIns := [], harness := (true, "971f8321461d8b39183cbc46721a3159d909c3b939e1061bd20652640557f58a"), looks := false }, kinds := [], alts := [], laidByText := true, laidKinds := [.data], laidTests := true, laidLooks := .later }
def FnExactArraysOfCardSaid : Prop := Claim7.holds Tryd.pinned (.plain (OpenSpec.ofChange fnExactArraysOfSpec)) fnExactArraysOfCard

/-- THE TIED CARD OF 'laws.FnExactIsMooreGraph'. -/
def fnExactIsMooreGraphCard : Claim7 := { stood := { row := fnExactIsMooreGraphRow, standIns := [], harness := (true, "971f8321461d8b39183cbc46721a3159d909c3b939e1061bd20652640557f58a"), looks := false }, kinds := [], alts := [], laidByText := true, laidKinds := [.data], laidTests := true, laidLooks := .later }
def FnExactIsMooreGraphCardSaid : Prop := Claim7.holds Tryd.pinned (.plain (OpenSpec.ofChange fnExactIsMooreGraphSpec)) fnExactIsMooreGraphCard

/-- THE TIED CARD OF 'laws.FnExactFoldedGraph'. -/
def fnExactFoldedGraphCard : Claim7 := { stood := { row := fnExactFoldedGraphRow, standIns := [], harness := (true, "971f8321461d8b39183cbc46721a3159d909c3b939e1061bd20652640557f58a"), looks := false }, kinds := [], alts := [], laidByText := true, laidKinds := [.data], laidTests := true, laidLooks := .later }
def FnExactFoldedGraphCardSaid : Prop := Claim7.holds Tryd.pinned (.plain (OpenSpec.ofChange fnExactFoldedGraphSpec)) fnExactFoldedGraphCard

/-- THE SECOND FORM's CARD OF 'laws.FnExactGraphAt'. -/
def fnExactGraphAtUptoCard : Claim7 := { stood := { row := fnExactGraphAtUptoRow, standIns := [], harness := (true, "971f8321461d8b39183cbc46721a3159d909c3b939e1061bd20652640557f58a"), looks := false }, kinds := [], alts := [], laidByText := true, laidKinds := [.data], laidTests := true, laidLooks := .later }
def FnExactGraphAtUptoCardSaid : Prop := Claim7.holds Tryd.pinned (.plain (OpenSpec.upto fnExactGraphAtSpec)) fnExactGraphAtUptoCard

/-- THE SECOND FORM's CARD OF 'laws.FnExactWordGirth'. -/
def fnExactWordGirthUptoCard : Claim7 := { stood := { row := fnExactWordGirthUptoRow, standIns := [], harness := (true, "971f8321461d8b39183cbc46721a3159d909c3b939e1061bd20652640557f58a"), looks := false }, kinds := [], alts := [], laidByText := true, laidKinds := [.data], laidTests := true, laidLooks := .later }
def FnExactWordGirthUptoCardSaid : Prop := Claim7.holds Tryd.pinned (.plain (OpenSpec.upto fnExactWordGirthSpec)) fnExactWordGirthUptoCard

/-- THE SECOND FORM's CARD OF 'laws.FnExactIsAntipodal'. -/
def fnExactIsAntipodalUptoCard : Claim7 := { stood := { row := fnExactIsAntipodalUptoRow, standIns := [], harness := (true, "971f8321461d8b39183cbc46721a3159d909c3b939e1061bd20652640557f58a"), looks := false }, kinds := [], alts := [], laidByText := true, laidKinds := [.data], laidTests := true, laidLooks := .later }
def FnExactIsAntipodalUptoCardSaid : Prop := Claim7.holds Tryd.pinned (.plain (OpenSpec.upto fnExactIsAntipodalSpec)) fnExactIsAntipodalUptoCard

/-- THE SECOND FORM's CARD OF 'laws.FnExactFitsBoth'. -/
def fnExactFitsBothUptoCard : Claim7 := { stood := { row := fnExactFitsBothUptoRow, standIns := [], harness := (true, "971f8321461d8b39183cbc46721a3159d909c3b939e1061bd20652640557f58a"), looks := false }, kinds := [], alts := [], laidByText := true, laidKinds := [.data], laidTests := true, laidLooks := .later }
def FnExactFitsBothUptoCardSaid : Prop := Claim7.holds Tryd.pinned (.plain (OpenSpec.upto fnExactFitsBothSpec)) fnExactFitsBothUptoCard

/-- THE SECOND FORM's CARD OF 'laws.FnExactIsMooreDigraph'. -/
def fnExactIsMooreDigraphUptoCard : Claim7 := { stood := { row := fnExactIsMooreDigraphUptoRow, standIns := [], harness := (true, "971f8321461d8b39183cbc46721a3159d909c3b939e1061bd20652640557f58a"), looks := false }, kinds := [], alts := [], laidByText := true, laidKinds := [.data], laidTests := true, laidLooks := .later }
def FnExactIsMooreDigraphUptoCardSaid : Prop := Claim7.holds Tryd.pinned (.plain (OpenSpec.upto fnExactIsMooreDigraphSpec)) fnExactIsMooreDigraphUptoCard

/-- THE SECOND FORM's CARD OF 'laws.FnExactIsDistanceRegular'. -/
def fnExactIsDistanceRegularUptoCard : Claim7 := { stood := { row := fnExactIsDistanceRegularUptoRow, standIns := [], harness := (true, "971f8321461d8b39183cbc46721a3159d909c3b939e1061bd20652640557f58a"), looks := false }, kinds := [], alts := [], laidByText := true, laidKinds := [.data], laidTests := true, laidLooks := .later }
def FnExactIsDistanceRegularUptoCardSaid : Prop := Claim7.holds Tryd.pinned (.plain (OpenSpec.upto fnExactIsDistanceRegularSpec)) fnExactIsDistanceRegularUptoCard

/-- THE SECOND FORM's CARD OF 'laws.FnExactDefectOf'. -/
def fnExactDefectOfUptoCard : Claim7 := { stood := { row := fnExactDefectOfUptoRow, standIns := [], harness := (true, "971f8321461d8b39183cbc46721a3159d909c3b939e1061bd20652640557f58a"), looks := false }, kinds := [], alts := [], laidByText := true, laidKinds := [.data], laidTests := true, laidLooks := .later }
def FnExactDefectOfUptoCardSaid : Prop := Claim7.holds Tryd.pinned (.plain (OpenSpec.upto fnExactDefectOfSpec)) fnExactDefectOfUptoCard

/-- THE SECOND FORM's CARD OF 'laws.FnExactExcessOf'. -/
def fnExactExcessOfUptoCard : Claim7 := { stood := { row := fnExactExcessOfUptoRow, standIns := [], harness := (true, "971f8321461d8b39183cbc46721a3159d909c3b939e1061bd20652640557f58a"), looks := false }, kinds := [], alts := [], laidByText := true, laidKinds := [.data], laidTests := true, laidLooks := .later }
def FnExactExcessOfUptoCardSaid : Prop := Claim7.holds Tryd.pinned (.plain (OpenSpec.upto fnExactExcessOfSpec)) fnExactExcessOfUptoCard

/-- THE SECOND FORM's CARD OF 'laws.FnExactArraysOf'. -/
def fnExactArraysOfUptoCard : Claim7 := { stood := { row := fnExactArraysOfUptoRow, standIns := [], harness := (true, "971f8321461d8b39183cbc46721a3159d909c3b939e1061bd20652640557f58a"), looks := false }, kinds := [], alts := [], laidByText := true, laidKinds := [.data], laidTests := true, laidLooks := .later }
def FnExactArraysOfUptoCardSaid : Prop := Claim7.holds Tryd.pinned (.plain (OpenSpec.upto fnExactArraysOfSpec)) fnExactArraysOfUptoCard

/-- THE SECOND FORM's CARD OF 'laws.FnExactIsMooreGraph'. -/
def fnExactIsMooreGraphUptoCard : Claim7 := { stood := { row := fnExactIsMooreGraphUptoRow, standIns := [], harness := (true, "971f8321461d8b39183cbc46721a3159d909c3b939e1061bd20652640557f58a"), looks := false }, kinds := [], alts := [], laidByText := true, laidKinds := [.data], laidTests := true, laidLooks := .later }
def FnExactIsMooreGraphUptoCardSaid : Prop := Claim7.holds Tryd.pinned (.plain (OpenSpec.upto fnExactIsMooreGraphSpec)) fnExactIsMooreGraphUptoCard

/-- THE SECOND FORM's CARD OF 'laws.FnExactFoldedGraph'. -/
def fnExactFoldedGraphUptoCard : Claim7 := { stood := { row := fnExactFoldedGraphUptoRow, standIns := [], harness := (true, "971f8321461d8b39183cbc46721a3159d909c3b939e1061bd20652640557f58a"), looks := false }, kinds := [], alts := [], laidByText := true, laidKinds := [.data], laidTests := true, laidLooks := .later }
def FnExactFoldedGraphUptoCardSaid : Prop := Claim7.holds Tryd.pinned (.plain (OpenSpec.upto fnExactFoldedGraphSpec)) fnExactFoldedGraphUptoCard
end Rows
end Go.Proofs.YtkmpkcofddpdgaaDoor
