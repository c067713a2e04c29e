/-
  DERIVED. GIVEN WITH THE SEED: THE CARDS: each row of YtcffgfomicpbfaaDoorRows.lean that lists a variable, with what it lists TIED to the program's text (the seventh form; the later family's looks); each row that meets fmt, with fmt's text TOLD by the authors' own Lean function (tested against real Go, not proved from fmt's source: count such statements apart). THE CARD IS WHAT COUNTS. Prove the row's statement (the work); the ties are given (YtcffgfomicpbfaaDoorTie.lean); close each card by the builder's one call (the guide's Derived/Test/ToyasCard.lean, 'card_holds'). Laid BY PROGRAM, IN A SANDBOX (cutbox-door.mjs). By AI agents, Wed Nov 11 2026. No macro, syntax, notation, axiom, sorry.
-/
import Derived.Test.YtcffgfomicpbfaaDoorRows
import GoSem.ClaimSeven
namespace Go.Proofs.YtcffgfomicpbfaaDoor
namespace Rows

/-- THE TIED CARD OF 'laws.FnExactArcsOf'. -/
def fnExactArcsOfCard : Claim7 := { stood := { row := fnExactArcsOfRow, standIns := [], harness := (true, "0ff4535332123a1d6f6533bc3f22189d07c55dc5845ae7d08555476f525d2935"), looks := false }, kinds := [], alts := [], laidByText := true, laidKinds := [.data], laidTests := true, laidLooks := .later }
def FnExactArcsOfCardSaid : Prop := Claim7.holds Tryd.pinned (.plain (OpenSpec.ofChange fnExactArcsOfSpec)) fnExactArcsOfCard

/-- THE TIED CARD OF 'laws.FnExactLineDigraph'. -/
def fnExactLineDigraphCard : Claim7 := { stood := { row := fnExactLineDigraphRow, standIns := [], harness := (true, "0ff4535332123a1d6f6533bc3f22189d07c55dc5845ae7d08555476f525d2935"), looks := false }, kinds := [], alts := [], laidByText := true, laidKinds := [.data], laidTests := true, laidLooks := .later }
def FnExactLineDigraphCardSaid : Prop := Claim7.holds Tryd.pinned (.plain (OpenSpec.ofChange fnExactLineDigraphSpec)) fnExactLineDigraphCard

/-- THE TIED CARD OF 'laws.FnExactSubdivideGraph'. -/
def fnExactSubdivideGraphCard : Claim7 := { stood := { row := fnExactSubdivideGraphRow, standIns := [], harness := (true, "0ff4535332123a1d6f6533bc3f22189d07c55dc5845ae7d08555476f525d2935"), looks := false }, kinds := [], alts := [], laidByText := true, laidKinds := [.data], laidTests := true, laidLooks := .later }
def FnExactSubdivideGraphCardSaid : Prop := Claim7.holds Tryd.pinned (.plain (OpenSpec.ofChange fnExactSubdivideGraphSpec)) fnExactSubdivideGraphCard

/-- THE TIED CARD OF 'laws.FnExactLineGraph'. -/
def fnExactLineGraphCard : Claim7 := { stood := { row := fnExactLineGraphRow, standIns := [], harness := (true, "0ff4535332123a1d6f6533bc3f22189d07c55dc5845ae7d08555476f525d2935"), looks := false }, kinds := [], alts := [], laidByText := true, laidKinds := [.data], laidTests := true, laidLooks := .later }
def FnExactLineGraphCardSaid : Prop := Claim7.holds Tryd.pinned (.plain (OpenSpec.ofChange fnExactLineGraphSpec)) fnExactLineGraphCard

/-- THE TIED CARD OF 'laws.FnExactInflateGraph'. -/
def fnExactInflateGraphCard : Claim7 := { stood := { row := fnExactInflateGraphRow, standIns := [], harness := (true, "0ff4535332123a1d6f6533bc3f22189d07c55dc5845ae7d08555476f525d2935"), looks := false }, kinds := [], alts := [], laidByText := true, laidKinds := [.data], laidTests := true, laidLooks := .later }
def FnExactInflateGraphCardSaid : Prop := Claim7.holds Tryd.pinned (.plain (OpenSpec.ofChange fnExactInflateGraphSpec)) fnExactInflateGraphCard

/-- THE SECOND FORM's CARD OF 'laws.FnExactArcsOf'. -/
def fnExactArcsOfUptoCard : Claim7 := { stood := { row := fnExactArcsOfUptoRow, standIns := [], harness := (true, "0ff4535332123a1d6f6533bc3f22189d07c55dc5845ae7d08555476f525d2935"), looks := false }, kinds := [], alts := [], laidByText := true, laidKinds := [.data], laidTests := true, laidLooks := .later }
def FnExactArcsOfUptoCardSaid : Prop := Claim7.holds Tryd.pinned (.plain (OpenSpec.upto fnExactArcsOfSpec)) fnExactArcsOfUptoCard

/-- THE SECOND FORM's CARD OF 'laws.FnExactLineDigraph'. -/
def fnExactLineDigraphUptoCard : Claim7 := { stood := { row := fnExactLineDigraphUptoRow, standIns := [], harness := (true, "0ff4535332123a1d6f6533bc3f22189d07c55dc5845ae7d08555476f525d2935"), looks := false }, kinds := [], alts := [], laidByText := true, laidKinds := [.data], laidTests := true, laidLooks := .later }
def FnExactLineDigraphUptoCardSaid : Prop := Claim7.holds Tryd.pinned (.plain (OpenSpec.upto fnExactLineDigraphSpec)) fnExactLineDigraphUptoCard

/-- THE SECOND FORM's CARD OF 'laws.FnExactSubdivideGraph'. -/
def fnExactSubdivideGraphUptoCard : Claim7 := { stood := { row := fnExactSubdivideGraphUptoRow, standIns := [], harness := (true, "0ff4535332123a1d6f6533bc3f22189d07c55dc5845ae7d08555476f525d2935"), looks := false }, kinds := [], alts := [], laidByText := true, laidKinds := [.data], laidTests := true, laidLooks := .later }
def FnExactSubdivideGraphUptoCardSaid : Prop := Claim7.holds Tryd.pinned (.plain (OpenSpec.upto fnExactSubdivideGraphSpec)) fnExactSubdivideGraphUptoCard

/-- THE SECOND FORM's CARD OF 'laws.FnExactLineGraph'. -/
def fnExactLineGraphUptoCard : Claim7 := { stood := { row := fnExactLineGraphUptoRow, standIns := [], harness := (true, "0ff4535332123a1d6f6533bc3f22189d07c55dc5845ae7d08555476f525d2935"), looks := false }, kinds := [], alts := [], laidByText := true, laidKinds := [.data], laidTests := true, laidLooks := .later }
def FnExactLineGraphUptoCardSaid : Prop := Claim7.holds Tryd.pinned (.plain (OpenSpec.upto fnExactLineGraphSpec)) fnExactLineGraphUptoCard

/-- THE SECOND FORM's CARD OF 'laws.FnExactInflateGraph'. -/
def fnExactInflateGraphUptoCard : Claim7 := { stood := { row := fnExactInflateGraphUptoRow, standIns := [], harness := (true, "0ff4535332123a1d6f6533bc3f22189d07c55dc5845ae7d08555476f525d2935"), looks := false }, kinds := [], alts := [], laidByText := true, laidKinds := [.data], laidTests := true, laidLooks := .later }
def FnExactInflateGraphUptoCardSaid : Prop := Claim7.holds Tryd.pinned (.plain (OpenSpec.upto fnExactInflateGraphSpec)) fnExactInflateGraphUptoCard
end Rows
end Go.Proofs.YtcffgfomicpbfaaDoor
