/-
  DERIVED. GIVEN WITH THE SEED: THE CARDS: each row of YtmofdldplbplbaaDoorRows.lean that lists a variable, with what it lists TIED to the program's text (the seventh form; the later family's looks); each row that meets fmt, with fmt's text TOLD by the authors' own Lean function (tested against real Go, not proved from fmt's source: count such statements apart). THE CARD IS WHAT COUNTS. Prove the row's statement (the work); the ties are given (YtmofdldplbplbaaDoorTie.lean); close each card by the builder's one call (the guide's Derived/Test/ToyasCard.lean, 'card_holds'). Laid BY PROGRAM, IN A SANDBOX (cutbox-door.mjs). By AI agents, Wed Nov 11 2026. No macro, syntax, notation, axiom, sorry.
-/
import Derived.Test.YtmofdldplbplbaaDoorRows
import GoSem.ClaimSeven
namespace Go.Proofs.YtmofdldplbplbaaDoor
namespace Rows

/-- THE TIED CARD OF 'laws.FnArrays'. -/
def fnArraysCard : Claim7 := { stood := { row := fnArraysRow, standIns := [], harness := (true, "698dc039a1fc6f40587aa1ec377a0ab6a731dfaa196095b939b72aef703177bd"), looks := false }, kinds := [], alts := [], laidByText := true, laidKinds := [.data], laidTests := true, laidLooks := .later }
def FnArraysCardSaid : Prop := Claim7.holds Tryd.pinned (.plain (OpenSpec.ofChange fnArraysSpec)) fnArraysCard

/-- THE TIED CARD OF 'laws.FnDigraphs'. -/
def fnDigraphsCard : Claim7 := { stood := { row := fnDigraphsRow, standIns := [], harness := (true, "698dc039a1fc6f40587aa1ec377a0ab6a731dfaa196095b939b72aef703177bd"), looks := false }, kinds := [], alts := [], laidByText := true, laidKinds := [.data], laidTests := true, laidLooks := .later }
def FnDigraphsCardSaid : Prop := Claim7.holds Tryd.pinned (.plain (OpenSpec.ofChange fnDigraphsSpec)) fnDigraphsCard

/-- THE TIED CARD OF 'laws.FnPlanes'. -/
def fnPlanesCard : Claim7 := { stood := { row := fnPlanesRow, standIns := [], harness := (true, "698dc039a1fc6f40587aa1ec377a0ab6a731dfaa196095b939b72aef703177bd"), looks := false }, kinds := [], alts := [], laidByText := true, laidKinds := [.data], laidTests := true, laidLooks := .later }
def FnPlanesCardSaid : Prop := Claim7.holds Tryd.pinned (.plain (OpenSpec.ofChange fnPlanesSpec)) fnPlanesCard

/-- THE TIED CARD OF 'laws.FnWordDigraphs'. -/
def fnWordDigraphsCard : Claim7 := { stood := { row := fnWordDigraphsRow, standIns := [], harness := (true, "698dc039a1fc6f40587aa1ec377a0ab6a731dfaa196095b939b72aef703177bd"), looks := false }, kinds := [], alts := [], laidByText := true, laidKinds := [.data], laidTests := true, laidLooks := .later }
def FnWordDigraphsCardSaid : Prop := Claim7.holds Tryd.pinned (.plain (OpenSpec.ofChange fnWordDigraphsSpec)) fnWordDigraphsCard

/-- THE SECOND FORM's CARD OF 'laws.FnArrays'. -/
def fnArraysUptoCard : Claim7 := { stood := { row := fnArraysUptoRow, standIns := [], harness := (true, "698dc039a1fc6f40587aa1ec377a0ab6a731dfaa196095b939b72aef703177bd"), looks := false }, kinds := [], alts := [], laidByText := true, laidKinds := [.data], laidTests := true, laidLooks := .later }
def FnArraysUptoCardSaid : Prop := Claim7.holds Tryd.pinned (.plain (OpenSpec.upto fnArraysSpec)) fnArraysUptoCard

/-- THE SECOND FORM's CARD OF 'laws.FnDigraphs'. -/
def fnDigraphsUptoCard : Claim7 := { stood := { row := fnDigraphsUptoRow, standIns := [], harness := (true, "698dc039a1fc6f40587aa1ec377a0ab6a731dfaa196095b939b72aef703177bd"), looks := false }, kinds := [], alts := [], laidByText := true, laidKinds := [.data], laidTests := true, laidLooks := .later }
def FnDigraphsUptoCardSaid : Prop := Claim7.holds Tryd.pinned (.plain (OpenSpec.upto fnDigraphsSpec)) fnDigraphsUptoCard

/-- THE SECOND FORM's CARD OF 'laws.FnPlanes'. -/
def fnPlanesUptoCard : Claim7 := { stood := { row := fnPlanesUptoRow, standIns := [], harness := (true, "698dc039a1fc6f40587aa1ec377a0ab6a731dfaa196095b939b72aef703177bd"), looks := false }, kinds := [], alts := [], laidByText := true, laidKinds := [.data], laidTests := true, laidLooks := .later }
def FnPlanesUptoCardSaid : Prop := Claim7.holds Tryd.pinned (.plain (OpenSpec.upto fnPlanesSpec)) fnPlanesUptoCard

/-- THE SECOND FORM's CARD OF 'laws.FnWordDigraphs'. -/
def fnWordDigraphsUptoCard : Claim7 := { stood := { row := fnWordDigraphsUptoRow, standIns := [], harness := (true, "698dc039a1fc6f40587aa1ec377a0ab6a731dfaa196095b939b72aef703177bd"), looks := false }, kinds := [], alts := [], laidByText := true, laidKinds := [.data], laidTests := true, laidLooks := .later }
def FnWordDigraphsUptoCardSaid : Prop := Claim7.holds Tryd.pinned (.plain (OpenSpec.upto fnWordDigraphsSpec)) fnWordDigraphsUptoCard
end Rows
end Go.Proofs.YtmofdldplbplbaaDoor
