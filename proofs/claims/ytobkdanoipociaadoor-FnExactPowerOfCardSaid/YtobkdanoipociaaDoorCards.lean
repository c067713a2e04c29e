/-
  DERIVED. GIVEN WITH THE SEED: THE CARDS: each row of YtobkdanoipociaaDoorRows.lean that lists a variable, with what it lists TIED to the program's text (the seventh form; the later family's looks); each row that meets fmt, with fmt's text TOLD by the authors' own Lean function (tested against real Go, not proved from fmt's source: count such statements apart). THE CARD IS WHAT COUNTS. Prove the row's statement (the work); the ties are given (YtobkdanoipociaaDoorTie.lean); close each card by the builder's one call (the guide's Derived/Test/ToyasCard.lean, 'card_holds'). Laid BY PROGRAM, IN A SANDBOX (cutbox-door.mjs). By AI agents, Wed Nov 11 2026. No macro, syntax, notation, axiom, sorry.
-/
import Derived.Test.YtobkdanoipociaaDoorRows
import GoSem.ClaimSeven
namespace Go.Proofs.YtobkdanoipociaaDoor
namespace Rows

/-- THE TIED CARD OF 'laws.FnExactCountWalks'. -/
def fnExactCountWalksCard : Claim7 := { stood := { row := fnExactCountWalksRow, standIns := [], harness := (true, "46157a70ecaeacbb3d7102891c372fb33e2856805e392fd2c08a7376bcbfd3f9"), looks := false }, kinds := [], alts := [], laidByText := true, laidKinds := [.data], laidTests := true, laidLooks := .later }
def FnExactCountWalksCardSaid : Prop := Claim7.holds Tryd.pinned (.plain (OpenSpec.ofChange fnExactCountWalksSpec)) fnExactCountWalksCard

/-- THE TIED CARD OF 'laws.FnExactCountClosedAt'. -/
def fnExactCountClosedAtCard : Claim7 := { stood := { row := fnExactCountClosedAtRow, standIns := [], harness := (true, "46157a70ecaeacbb3d7102891c372fb33e2856805e392fd2c08a7376bcbfd3f9"), looks := false }, kinds := [], alts := [], laidByText := true, laidKinds := [.data], laidTests := true, laidLooks := .later }
def FnExactCountClosedAtCardSaid : Prop := Claim7.holds Tryd.pinned (.plain (OpenSpec.ofChange fnExactCountClosedAtSpec)) fnExactCountClosedAtCard

/-- THE TIED CARD OF 'laws.FnExactArcsOf'. -/
def fnExactArcsOfCard : Claim7 := { stood := { row := fnExactArcsOfRow, standIns := [], harness := (true, "46157a70ecaeacbb3d7102891c372fb33e2856805e392fd2c08a7376bcbfd3f9"), looks := false }, kinds := [], alts := [], laidByText := true, laidKinds := [.data], laidTests := true, laidLooks := .later }
def FnExactArcsOfCardSaid : Prop := Claim7.holds Tryd.pinned (.plain (OpenSpec.ofChange fnExactArcsOfSpec)) fnExactArcsOfCard

/-- THE TIED CARD OF 'laws.FnExactLineDigraph'. -/
def fnExactLineDigraphCard : Claim7 := { stood := { row := fnExactLineDigraphRow, standIns := [], harness := (true, "46157a70ecaeacbb3d7102891c372fb33e2856805e392fd2c08a7376bcbfd3f9"), looks := false }, kinds := [], alts := [], laidByText := true, laidKinds := [.data], laidTests := true, laidLooks := .later }
def FnExactLineDigraphCardSaid : Prop := Claim7.holds Tryd.pinned (.plain (OpenSpec.ofChange fnExactLineDigraphSpec)) fnExactLineDigraphCard

/-- THE TIED CARD OF 'laws.FnExactSubdivideGraph'. -/
def fnExactSubdivideGraphCard : Claim7 := { stood := { row := fnExactSubdivideGraphRow, standIns := [], harness := (true, "46157a70ecaeacbb3d7102891c372fb33e2856805e392fd2c08a7376bcbfd3f9"), looks := false }, kinds := [], alts := [], laidByText := true, laidKinds := [.data], laidTests := true, laidLooks := .later }
def FnExactSubdivideGraphCardSaid : Prop := Claim7.holds Tryd.pinned (.plain (OpenSpec.ofChange fnExactSubdivideGraphSpec)) fnExactSubdivideGraphCard

/-- THE TIED CARD OF 'laws.FnExactLineGraph'. -/
def fnExactLineGraphCard : Claim7 := { stood := { row := fnExactLineGraphRow, standIns := [], harness := (true, "46157a70ecaeacbb3d7102891c372fb33e2856805e392fd2c08a7376bcbfd3f9"), looks := false }, kinds := [], alts := [], laidByText := true, laidKinds := [.data], laidTests := true, laidLooks := .later }
def FnExactLineGraphCardSaid : Prop := Claim7.holds Tryd.pinned (.plain (OpenSpec.ofChange fnExactLineGraphSpec)) fnExactLineGraphCard

/-- THE TIED CARD OF 'laws.FnExactInflateGraph'. -/
def fnExactInflateGraphCard : Claim7 := { stood := { row := fnExactInflateGraphRow, standIns := [], harness := (true, "46157a70ecaeacbb3d7102891c372fb33e2856805e392fd2c08a7376bcbfd3f9"), looks := false }, kinds := [], alts := [], laidByText := true, laidKinds := [.data], laidTests := true, laidLooks := .later }
def FnExactInflateGraphCardSaid : Prop := Claim7.holds Tryd.pinned (.plain (OpenSpec.ofChange fnExactInflateGraphSpec)) fnExactInflateGraphCard

/-- THE TIED CARD OF 'laws.FnExactPowerOf'. -/
def fnExactPowerOfCard : Claim7 := { stood := { row := fnExactPowerOfRow, standIns := [], harness := (true, "46157a70ecaeacbb3d7102891c372fb33e2856805e392fd2c08a7376bcbfd3f9"), looks := false }, kinds := [], alts := [], laidByText := true, laidKinds := [.data], laidTests := true, laidLooks := .later }
def FnExactPowerOfCardSaid : Prop := Claim7.holds Tryd.pinned (.plain (OpenSpec.ofChange fnExactPowerOfSpec)) fnExactPowerOfCard

/-- THE TIED CARD OF 'laws.FnExactGraphAt'. -/
def fnExactGraphAtCard : Claim7 := { stood := { row := fnExactGraphAtRow, standIns := [], harness := (true, "46157a70ecaeacbb3d7102891c372fb33e2856805e392fd2c08a7376bcbfd3f9"), looks := false }, kinds := [], alts := [], laidByText := true, laidKinds := [.data], laidTests := true, laidLooks := .later }
def FnExactGraphAtCardSaid : Prop := Claim7.holds Tryd.pinned (.plain (OpenSpec.ofChange fnExactGraphAtSpec)) fnExactGraphAtCard

/-- THE TIED CARD OF 'laws.FnExactWordGirth'. -/
def fnExactWordGirthCard : Claim7 := { stood := { row := fnExactWordGirthRow, standIns := [], harness := (true, "46157a70ecaeacbb3d7102891c372fb33e2856805e392fd2c08a7376bcbfd3f9"), looks := false }, kinds := [], alts := [], laidByText := true, laidKinds := [.data], laidTests := true, laidLooks := .later }
def FnExactWordGirthCardSaid : Prop := Claim7.holds Tryd.pinned (.plain (OpenSpec.ofChange fnExactWordGirthSpec)) fnExactWordGirthCard

/-- THE TIED CARD OF 'laws.FnExactIsStrong'. -/
def fnExactIsStrongCard : Claim7 := { stood := { row := fnExactIsStrongRow, standIns := [], harness := (true, "46157a70ecaeacbb3d7102891c372fb33e2856805e392fd2c08a7376bcbfd3f9"), looks := false }, kinds := [], alts := [], laidByText := true, laidKinds := [.data], laidTests := true, laidLooks := .later }
def FnExactIsStrongCardSaid : Prop := Claim7.holds Tryd.pinned (.plain (OpenSpec.ofChange fnExactIsStrongSpec)) fnExactIsStrongCard

/-- THE TIED CARD OF 'laws.FnExactDiameterOfDigraph'. -/
def fnExactDiameterOfDigraphCard : Claim7 := { stood := { row := fnExactDiameterOfDigraphRow, standIns := [], harness := (true, "46157a70ecaeacbb3d7102891c372fb33e2856805e392fd2c08a7376bcbfd3f9"), looks := false }, kinds := [], alts := [], laidByText := true, laidKinds := [.data], laidTests := true, laidLooks := .later }
def FnExactDiameterOfDigraphCardSaid : Prop := Claim7.holds Tryd.pinned (.plain (OpenSpec.ofChange fnExactDiameterOfDigraphSpec)) fnExactDiameterOfDigraphCard

/-- THE SECOND FORM's CARD OF 'laws.FnExactCountWalks'. -/
def fnExactCountWalksUptoCard : Claim7 := { stood := { row := fnExactCountWalksUptoRow, standIns := [], harness := (true, "46157a70ecaeacbb3d7102891c372fb33e2856805e392fd2c08a7376bcbfd3f9"), looks := false }, kinds := [], alts := [], laidByText := true, laidKinds := [.data], laidTests := true, laidLooks := .later }
def FnExactCountWalksUptoCardSaid : Prop := Claim7.holds Tryd.pinned (.plain (OpenSpec.upto fnExactCountWalksSpec)) fnExactCountWalksUptoCard

/-- THE SECOND FORM's CARD OF 'laws.FnExactCountClosedAt'. -/
def fnExactCountClosedAtUptoCard : Claim7 := { stood := { row := fnExactCountClosedAtUptoRow, standIns := [], harness := (true, "46157a70ecaeacbb3d7102891c372fb33e2856805e392fd2c08a7376bcbfd3f9"), looks := false }, kinds := [], alts := [], laidByText := true, laidKinds := [.data], laidTests := true, laidLooks := .later }
def FnExactCountClosedAtUptoCardSaid : Prop := Claim7.holds Tryd.pinned (.plain (OpenSpec.upto fnExactCountClosedAtSpec)) fnExactCountClosedAtUptoCard

/-- THE SECOND FORM's CARD OF 'laws.FnExactArcsOf'. -/
def fnExactArcsOfUptoCard : Claim7 := { stood := { row := fnExactArcsOfUptoRow, standIns := [], harness := (true, "46157a70ecaeacbb3d7102891c372fb33e2856805e392fd2c08a7376bcbfd3f9"), looks := false }, kinds := [], alts := [], laidByText := true, laidKinds := [.data], laidTests := true, laidLooks := .later }
def FnExactArcsOfUptoCardSaid : Prop := Claim7.holds Tryd.pinned (.plain (OpenSpec.upto fnExactArcsOfSpec)) fnExactArcsOfUptoCard

/-- THE SECOND FORM's CARD OF 'laws.FnExactLineDigraph'. -/
def fnExactLineDigraphUptoCard : Claim7 := { stood := { row := fnExactLineDigraphUptoRow, standIns := [], harness := (true, "46157a70ecaeacbb3d7102891c372fb33e2856805e392fd2c08a7376bcbfd3f9"), looks := false }, kinds := [], alts := [], laidByText := true, laidKinds := [.data], laidTests := true, laidLooks := .later }
def FnExactLineDigraphUptoCardSaid : Prop := Claim7.holds Tryd.pinned (.plain (OpenSpec.upto fnExactLineDigraphSpec)) fnExactLineDigraphUptoCard

/-- THE SECOND FORM's CARD OF 'laws.FnExactSubdivideGraph'. -/
def fnExactSubdivideGraphUptoCard : Claim7 := { stood := { row := fnExactSubdivideGraphUptoRow, standIns := [], harness := (true, "46157a70ecaeacbb3d7102891c372fb33e2856805e392fd2c08a7376bcbfd3f9"), looks := false }, kinds := [], alts := [], laidByText := true, laidKinds := [.data], laidTests := true, laidLooks := .later }
def FnExactSubdivideGraphUptoCardSaid : Prop := Claim7.holds Tryd.pinned (.plain (OpenSpec.upto fnExactSubdivideGraphSpec)) fnExactSubdivideGraphUptoCard

/-- THE SECOND FORM's CARD OF 'laws.FnExactLineGraph'. -/
def fnExactLineGraphUptoCard : Claim7 := { stood := { row := fnExactLineGraphUptoRow, standIns := [], harness := (true, "46157a70ecaeacbb3d7102891c372fb33e2856805e392fd2c08a7376bcbfd3f9"), looks := false }, kinds := [], alts := [], laidByText := true, laidKinds := [.data], laidTests := true, laidLooks := .later }
def FnExactLineGraphUptoCardSaid : Prop := Claim7.holds Tryd.pinned (.plain (OpenSpec.upto fnExactLineGraphSpec)) fnExactLineGraphUptoCard

/-- THE SECOND FORM's CARD OF 'laws.FnExactInflateGraph'. -/
def fnExactInflateGraphUptoCard : Claim7 := { stood := { row := fnExactInflateGraphUptoRow, standIns := [], harness := (true, "46157a70ecaeacbb3d7102891c372fb33e2856805e392fd2c08a7376bcbfd3f9"), looks := false }, kinds := [], alts := [], laidByText := true, laidKinds := [.data], laidTests := true, laidLooks := .later }
def FnExactInflateGraphUptoCardSaid : Prop := Claim7.holds Tryd.pinned (.plain (OpenSpec.upto fnExactInflateGraphSpec)) fnExactInflateGraphUptoCard

/-- THE SECOND FORM's CARD OF 'laws.FnExactPowerOf'. -/
def fnExactPowerOfUptoCard : Claim7 := { stood := { row := fnExactPowerOfUptoRow, standIns := [], harness := (true, "46157a70ecaeacbb3d7102891c372fb33e2856805e392fd2c08a7376bcbfd3f9"), looks := false }, kinds := [], alts := [], laidByText := true, laidKinds := [.data], laidTests := true, laidLooks := .later }
def FnExactPowerOfUptoCardSaid : Prop := Claim7.holds Tryd.pinned (.plain (OpenSpec.upto fnExactPowerOfSpec)) fnExactPowerOfUptoCard

/-- THE SECOND FORM's CARD OF 'laws.FnExactGraphAt'. -/
def fnExactGraphAtUptoCard : Claim7 := { stood := { row := fnExactGraphAtUptoRow, standIns := [], harness := (true, "46157a70ecaeacbb3d7102891c372fb33e2856805e392fd2c08a7376bcbfd3f9"), looks := false }, kinds := [], alts := [], laidByText := true, laidKinds := [.data], laidTests := true, laidLooks := .later }
def FnExactGraphAtUptoCardSaid : Prop := Claim7.holds Tryd.pinned (.plain (OpenSpec.upto fnExactGraphAtSpec)) fnExactGraphAtUptoCard

/-- THE SECOND FORM's CARD OF 'laws.FnExactWordGirth'. -/
def fnExactWordGirthUptoCard : Claim7 := { stood := { row := fnExactWordGirthUptoRow, standIns := [], harness := (true, "46157a70ecaeacbb3d7102891c372fb33e2856805e392fd2c08a7376bcbfd3f9"), looks := false }, kinds := [], alts := [], laidByText := true, laidKinds := [.data], laidTests := true, laidLooks := .later }
def FnExactWordGirthUptoCardSaid : Prop := Claim7.holds Tryd.pinned (.plain (OpenSpec.upto fnExactWordGirthSpec)) fnExactWordGirthUptoCard

/-- THE SECOND FORM's CARD OF 'laws.FnExactIsStrong'. -/
def fnExactIsStrongUptoCard : Claim7 := { stood := { row := fnExactIsStrongUptoRow, standIns := [], harness := (true, "46157a70ecaeacbb3d7102891c372fb33e2856805e392fd2c08a7376bcbfd3f9"), looks := false }, kinds := [], alts := [], laidByText := true, laidKinds := [.data], laidTests := true, laidLooks := .later }
def FnExactIsStrongUptoCardSaid : Prop := Claim7.holds Tryd.pinned (.plain (OpenSpec.upto fnExactIsStrongSpec)) fnExactIsStrongUptoCard

/-- THE SECOND FORM's CARD OF 'laws.FnExactDiameterOfDigraph'. -/
def fnExactDiameterOfDigraphUptoCard : Claim7 := { stood := { row := fnExactDiameterOfDigraphUptoRow, standIns := [], harness := (true, "46157a70ecaeacbb3d7102891c372fb33e2856805e392fd2c08a7376bcbfd3f9"), looks := false }, kinds := [], alts := [], laidByText := true, laidKinds := [.data], laidTests := true, laidLooks := .later }
def FnExactDiameterOfDigraphUptoCardSaid : Prop := Claim7.holds Tryd.pinned (.plain (OpenSpec.upto fnExactDiameterOfDigraphSpec)) fnExactDiameterOfDigraphUptoCard
end Rows
end Go.Proofs.YtobkdanoipociaaDoor
