/-
  NARROWER THAN 'FOR EVERY INPUT', by the rows' own cells (each row's printed sentence says how): FnExactGraphAt: laid · FnExactWordGirth: laid · FnExactIsAntipodal: laid · FnExactFitsBoth: laid · FnExactIsMooreDigraph: laid · FnExactIsDistanceRegular: laid · FnExactDefectOf: laid · FnExactExcessOf: laid · FnExactArraysOf: laid · FnExactIsMooreGraph: laid · FnExactFoldedGraph: laid.
  DERIVED. THE GIVEN ROWS OF THIS SEAT. 11 by the template 'for every input the law returns true; each argument reads behind the call as it read before'; 0 by the template 'total and deterministic' (their statements: YtkmpkcofddpdgaaDoorTotals.lean).
  GIVEN WITH THE SEED: the statements are not yours to turn. If you find one false, say at which input.
  Laid BY PROGRAM, IN A SANDBOX (cutbox-rows.mjs): the forced cells as the released guide's own fill.sh prints them over the translation b34294dea3881cf4… (all of the seat's roots in one cut). By AI agents, Wed Nov 11 2026. No macro, syntax, notation, axiom, sorry.
-/
import Derived.Test.YtkmpkcofddpdgaaDoorChecked
import GoSem.Claim
import GoSem.ClaimJoined
import GoSem.ClaimMapViews
import Derived.JoinedTies
import Derived.KernelRfl
namespace Go.Proofs.YtkmpkcofddpdgaaDoor
/- THE CELL 'sum', in the pinned program and in every row, IS THE sha256 OF THE DUMP (.gsa) THAT YtkmpkcofddpdgaaDoorProg.lean LOADS. Nothing in Lean hashes anything: it is a label: what it is worth is what the hold of that sum in a sandbox is worth. -/
noncomputable def Tryd.pinned : Pinned := { name := "ytkmpkcofddpdgaadoor", sum := "b34294dea3881cf44c451d85e228d2cd3fd7f05132048ec2f5821091a43b6d56", checked := Tryd.checked }
namespace Rows
def none {H : Type} : Left H := { results := [], args := [] }

/- WHAT THE LISTED PACKAGE-LEVEL VARIABLES READ AS WHEN THE CALL BEGINS. Each datum BY PROGRAM (the guide's laid-datum.mjs) off the statement by which the dump's own 'gosem.cut.vars' lays the variable. In a bare row this is a premise. The card (YtkmpkcofddpdgaaDoorCards.lean) ties it to the program's text. -/
def laid_math_bits_deBruijn64tab {H : Type} : DataW H := .agg [.lit (.int .u8 0), .lit (.int .u8 1), .lit (.int .u8 56), .lit (.int .u8 2), .lit (.int .u8 57), .lit (.int .u8 49), .lit (.int .u8 28), .lit (.int .u8 3), .lit (.int .u8 61), .lit (.int .u8 58), .lit (.int .u8 42), .lit (.int .u8 50), .lit (.int .u8 38), .lit (.int .u8 29), .lit (.int .u8 17), .lit (.int .u8 4), .lit (.int .u8 62), .lit (.int .u8 47), .lit (.int .u8 59), .lit (.int .u8 36), .lit (.int .u8 45), .lit (.int .u8 43), .lit (.int .u8 51), .lit (.int .u8 22), .lit (.int .u8 53), .lit (.int .u8 39), .lit (.int .u8 33), .lit (.int .u8 30), .lit (.int .u8 24), .lit (.int .u8 18), .lit (.int .u8 12), .lit (.int .u8 5), .lit (.int .u8 63), .lit (.int .u8 55), .lit (.int .u8 48), .lit (.int .u8 27), .lit (.int .u8 60), .lit (.int .u8 41), .lit (.int .u8 37), .lit (.int .u8 16), .lit (.int .u8 46), .lit (.int .u8 35), .lit (.int .u8 44), .lit (.int .u8 21), .lit (.int .u8 52), .lit (.int .u8 32), .lit (.int .u8 23), .lit (.int .u8 11), .lit (.int .u8 54), .lit (.int .u8 26), .lit (.int .u8 40), .lit (.int .u8 15), .lit (.int .u8 34), .lit (.int .u8 20), .lit (.int .u8 31), .lit (.int .u8 10), .lit (.int .u8 25), .lit (.int .u8 14), .lit (.int .u8 19), .lit (.int .u8 9), .lit (.int .u8 13), .lit (.int .u8 8), .lit (.int .u8 7), .lit (.int .u8 6)]

/-- 'laws.FnExactGraphAt': WHATEVER THE INPUT: true; the input reads as it did. -/
def fnExactGraphAtSpec : ChangeSpec := { name := "fnExactGraphAt", fn := fun _ => fun
  | [d1, d2] => { results := [.lit (.bool true)], args := [d1, d2] }
  | _ => none }
def fnExactGraphAtRow : OpenClaim := { program := "ytkmpkcofddpdgaadoor", sum := "b34294dea3881cf44c451d85e228d2cd3fd7f05132048ec2f5821091a43b6d56", func := "loop.example/g01331/laws.FnExactGraphAt", spec := "fnExactGraphAt", named := ["math/bits.deBruijn64tab"], apart := false, laid := [("math/bits.deBruijn64tab", laid_math_bits_deBruijn64tab)] }
def FnExactGraphAtSaid : Prop := fnExactGraphAtRow.holds Tryd.pinned (OpenSpec.ofChange fnExactGraphAtSpec)

/-- ITS FALSE NEIGHBOUR: 'it returns false'. Refute it at one input. -/
def fnExactGraphAtWrong : ChangeSpec := { name := "fnExactGraphAt", fn := fun _ => fun
  | [d1, d2] => { results := [.lit (.bool false)], args := [d1, d2] }
  | _ => none }
def FnExactGraphAtWrongFalsely : Prop := fnExactGraphAtRow.holds Tryd.pinned (OpenSpec.ofChange fnExactGraphAtWrong)

/-- 'laws.FnExactWordGirth': WHATEVER THE INPUT: true; the input reads as it did. -/
def fnExactWordGirthSpec : ChangeSpec := { name := "fnExactWordGirth", fn := fun _ => fun
  | [d1, d2] => { results := [.lit (.bool true)], args := [d1, d2] }
  | _ => none }
def fnExactWordGirthRow : OpenClaim := { program := "ytkmpkcofddpdgaadoor", sum := "b34294dea3881cf44c451d85e228d2cd3fd7f05132048ec2f5821091a43b6d56", func := "loop.example/g01331/laws.FnExactWordGirth", spec := "fnExactWordGirth", named := ["math/bits.deBruijn64tab"], apart := false, laid := [("math/bits.deBruijn64tab", laid_math_bits_deBruijn64tab)] }
def FnExactWordGirthSaid : Prop := fnExactWordGirthRow.holds Tryd.pinned (OpenSpec.ofChange fnExactWordGirthSpec)

/-- ITS FALSE NEIGHBOUR: 'it returns false'. Refute it at one input. -/
def fnExactWordGirthWrong : ChangeSpec := { name := "fnExactWordGirth", fn := fun _ => fun
  | [d1, d2] => { results := [.lit (.bool false)], args := [d1, d2] }
  | _ => none }
def FnExactWordGirthWrongFalsely : Prop := fnExactWordGirthRow.holds Tryd.pinned (OpenSpec.ofChange fnExactWordGirthWrong)

/-- 'laws.FnExactIsAntipodal': WHATEVER THE INPUT: true; the input reads as it did. -/
def fnExactIsAntipodalSpec : ChangeSpec := { name := "fnExactIsAntipodal", fn := fun _ => fun
  | [d] => { results := [.lit (.bool true)], args := [d] }
  | _ => none }
def fnExactIsAntipodalRow : OpenClaim := { program := "ytkmpkcofddpdgaadoor", sum := "b34294dea3881cf44c451d85e228d2cd3fd7f05132048ec2f5821091a43b6d56", func := "loop.example/g01331/laws.FnExactIsAntipodal", spec := "fnExactIsAntipodal", named := ["math/bits.deBruijn64tab"], apart := false, laid := [("math/bits.deBruijn64tab", laid_math_bits_deBruijn64tab)] }
def FnExactIsAntipodalSaid : Prop := fnExactIsAntipodalRow.holds Tryd.pinned (OpenSpec.ofChange fnExactIsAntipodalSpec)

/-- ITS FALSE NEIGHBOUR: 'it returns false'. Refute it at one input. -/
def fnExactIsAntipodalWrong : ChangeSpec := { name := "fnExactIsAntipodal", fn := fun _ => fun
  | [d] => { results := [.lit (.bool false)], args := [d] }
  | _ => none }
def FnExactIsAntipodalWrongFalsely : Prop := fnExactIsAntipodalRow.holds Tryd.pinned (OpenSpec.ofChange fnExactIsAntipodalWrong)

/-- 'laws.FnExactFitsBoth': WHATEVER THE INPUT: true; the input reads as it did. -/
def fnExactFitsBothSpec : ChangeSpec := { name := "fnExactFitsBoth", fn := fun _ => fun
  | [d1, d2, d3] => { results := [.lit (.bool true)], args := [d1, d2, d3] }
  | _ => none }
def fnExactFitsBothRow : OpenClaim := { program := "ytkmpkcofddpdgaadoor", sum := "b34294dea3881cf44c451d85e228d2cd3fd7f05132048ec2f5821091a43b6d56", func := "loop.example/g01331/laws.FnExactFitsBoth", spec := "fnExactFitsBoth", named := ["math/bits.deBruijn64tab"], apart := false, laid := [("math/bits.deBruijn64tab", laid_math_bits_deBruijn64tab)] }
def FnExactFitsBothSaid : Prop := fnExactFitsBothRow.holds Tryd.pinned (OpenSpec.ofChange fnExactFitsBothSpec)

/-- ITS FALSE NEIGHBOUR: 'it returns false'. Refute it at one input. -/
def fnExactFitsBothWrong : ChangeSpec := { name := "fnExactFitsBoth", fn := fun _ => fun
  | [d1, d2, d3] => { results := [.lit (.bool false)], args := [d1, d2, d3] }
  | _ => none }
def FnExactFitsBothWrongFalsely : Prop := fnExactFitsBothRow.holds Tryd.pinned (OpenSpec.ofChange fnExactFitsBothWrong)

/-- 'laws.FnExactIsMooreDigraph': WHATEVER THE INPUT: true; the input reads as it did. -/
def fnExactIsMooreDigraphSpec : ChangeSpec := { name := "fnExactIsMooreDigraph", fn := fun _ => fun
  | [d] => { results := [.lit (.bool true)], args := [d] }
  | _ => none }
def fnExactIsMooreDigraphRow : OpenClaim := { program := "ytkmpkcofddpdgaadoor", sum := "b34294dea3881cf44c451d85e228d2cd3fd7f05132048ec2f5821091a43b6d56", func := "loop.example/g01331/laws.FnExactIsMooreDigraph", spec := "fnExactIsMooreDigraph", unfollowed := true, recurses := true, named := ["math/bits.deBruijn64tab"], apart := false, laid := [("math/bits.deBruijn64tab", laid_math_bits_deBruijn64tab)] }
def FnExactIsMooreDigraphSaid : Prop := fnExactIsMooreDigraphRow.holds Tryd.pinned (OpenSpec.ofChange fnExactIsMooreDigraphSpec)

/-- ITS FALSE NEIGHBOUR: 'it returns false'. Refute it at one input. -/
def fnExactIsMooreDigraphWrong : ChangeSpec := { name := "fnExactIsMooreDigraph", fn := fun _ => fun
  | [d] => { results := [.lit (.bool false)], args := [d] }
  | _ => none }
def FnExactIsMooreDigraphWrongFalsely : Prop := fnExactIsMooreDigraphRow.holds Tryd.pinned (OpenSpec.ofChange fnExactIsMooreDigraphWrong)

/-- 'laws.FnExactIsDistanceRegular': WHATEVER THE INPUT: true; the input reads as it did. -/
def fnExactIsDistanceRegularSpec : ChangeSpec := { name := "fnExactIsDistanceRegular", fn := fun _ => fun
  | [d] => { results := [.lit (.bool true)], args := [d] }
  | _ => none }
def fnExactIsDistanceRegularRow : OpenClaim := { program := "ytkmpkcofddpdgaadoor", sum := "b34294dea3881cf44c451d85e228d2cd3fd7f05132048ec2f5821091a43b6d56", func := "loop.example/g01331/laws.FnExactIsDistanceRegular", spec := "fnExactIsDistanceRegular", named := ["math/bits.deBruijn64tab"], apart := false, laid := [("math/bits.deBruijn64tab", laid_math_bits_deBruijn64tab)] }
def FnExactIsDistanceRegularSaid : Prop := fnExactIsDistanceRegularRow.holds Tryd.pinned (OpenSpec.ofChange fnExactIsDistanceRegularSpec)

/-- ITS FALSE NEIGHBOUR: 'it returns false'. Refute it at one input. -/
def fnExactIsDistanceRegularWrong : ChangeSpec := { name := "fnExactIsDistanceRegular", fn := fun _ => fun
  | [d] => { results := [.lit (.bool false)], args := [d] }
  | _ => none }
def FnExactIsDistanceRegularWrongFalsely : Prop := fnExactIsDistanceRegularRow.holds Tryd.pinned (OpenSpec.ofChange fnExactIsDistanceRegularWrong)

/-- 'laws.FnExactDefectOf': WHATEVER THE INPUT: true; the input reads as it did. -/
def fnExactDefectOfSpec : ChangeSpec := { name := "fnExactDefectOf", fn := fun _ => fun
  | [d] => { results := [.lit (.bool true)], args := [d] }
  | _ => none }
def fnExactDefectOfRow : OpenClaim := { program := "ytkmpkcofddpdgaadoor", sum := "b34294dea3881cf44c451d85e228d2cd3fd7f05132048ec2f5821091a43b6d56", func := "loop.example/g01331/laws.FnExactDefectOf", spec := "fnExactDefectOf", named := ["math/bits.deBruijn64tab"], apart := false, laid := [("math/bits.deBruijn64tab", laid_math_bits_deBruijn64tab)] }
def FnExactDefectOfSaid : Prop := fnExactDefectOfRow.holds Tryd.pinned (OpenSpec.ofChange fnExactDefectOfSpec)

/-- ITS FALSE NEIGHBOUR: 'it returns false'. Refute it at one input. -/
def fnExactDefectOfWrong : ChangeSpec := { name := "fnExactDefectOf", fn := fun _ => fun
  | [d] => { results := [.lit (.bool false)], args := [d] }
  | _ => none }
def FnExactDefectOfWrongFalsely : Prop := fnExactDefectOfRow.holds Tryd.pinned (OpenSpec.ofChange fnExactDefectOfWrong)

/-- 'laws.FnExactExcessOf': WHATEVER THE INPUT: true; the input reads as it did. -/
def fnExactExcessOfSpec : ChangeSpec := { name := "fnExactExcessOf", fn := fun _ => fun
  | [d] => { results := [.lit (.bool true)], args := [d] }
  | _ => none }
def fnExactExcessOfRow : OpenClaim := { program := "ytkmpkcofddpdgaadoor", sum := "b34294dea3881cf44c451d85e228d2cd3fd7f05132048ec2f5821091a43b6d56", func := "loop.example/g01331/laws.FnExactExcessOf", spec := "fnExactExcessOf", named := ["math/bits.deBruijn64tab"], apart := false, laid := [("math/bits.deBruijn64tab", laid_math_bits_deBruijn64tab)] }
def FnExactExcessOfSaid : Prop := fnExactExcessOfRow.holds Tryd.pinned (OpenSpec.ofChange fnExactExcessOfSpec)

/-- ITS FALSE NEIGHBOUR: 'it returns false'. Refute it at one input. -/
def fnExactExcessOfWrong : ChangeSpec := { name := "fnExactExcessOf", fn := fun _ => fun
  | [d] => { results := [.lit (.bool false)], args := [d] }
  | _ => none }
def FnExactExcessOfWrongFalsely : Prop := fnExactExcessOfRow.holds Tryd.pinned (OpenSpec.ofChange fnExactExcessOfWrong)

/-- 'laws.FnExactArraysOf': WHATEVER THE INPUT: true; the input reads as it did. -/
def fnExactArraysOfSpec : ChangeSpec := { name := "fnExactArraysOf", fn := fun _ => fun
  | [d] => { results := [.lit (.bool true)], args := [d] }
  | _ => none }
def fnExactArraysOfRow : OpenClaim := { program := "ytkmpkcofddpdgaadoor", sum := "b34294dea3881cf44c451d85e228d2cd3fd7f05132048ec2f5821091a43b6d56", func := "loop.example/g01331/laws.FnExactArraysOf", spec := "fnExactArraysOf", named := ["math/bits.deBruijn64tab"], apart := false, laid := [("math/bits.deBruijn64tab", laid_math_bits_deBruijn64tab)] }
def FnExactArraysOfSaid : Prop := fnExactArraysOfRow.holds Tryd.pinned (OpenSpec.ofChange fnExactArraysOfSpec)

/-- ITS FALSE NEIGHBOUR: 'it returns false'. Refute it at one input. -/
def fnExactArraysOfWrong : ChangeSpec := { name := "fnExactArraysOf", fn := fun _ => fun
  | [d] => { results := [.lit (.bool false)], args := [d] }
  | _ => none }
def FnExactArraysOfWrongFalsely : Prop := fnExactArraysOfRow.holds Tryd.pinned (OpenSpec.ofChange fnExactArraysOfWrong)

/-- 'laws.FnExactIsMooreGraph': WHATEVER THE INPUT: true; the input reads as it did. -/
def fnExactIsMooreGraphSpec : ChangeSpec := { name := "fnExactIsMooreGraph", fn := fun _ => fun
  | [d] => { results := [.lit (.bool true)], args := [d] }
  | _ => none }
def fnExactIsMooreGraphRow : OpenClaim := { program := "ytkmpkcofddpdgaadoor", sum := "b34294dea3881cf44c451d85e228d2cd3fd7f05132048ec2f5821091a43b6d56", func := "loop.example/g01331/laws.FnExactIsMooreGraph", spec := "fnExactIsMooreGraph", named := ["math/bits.deBruijn64tab"], apart := false, laid := [("math/bits.deBruijn64tab", laid_math_bits_deBruijn64tab)] }
def FnExactIsMooreGraphSaid : Prop := fnExactIsMooreGraphRow.holds Tryd.pinned (OpenSpec.ofChange fnExactIsMooreGraphSpec)

/-- ITS FALSE NEIGHBOUR: 'it returns false'. Refute it at one input. -/
def fnExactIsMooreGraphWrong : ChangeSpec := { name := "fnExactIsMooreGraph", fn := fun _ => fun
  | [d] => { results := [.lit (.bool false)], args := [d] }
  | _ => none }
def FnExactIsMooreGraphWrongFalsely : Prop := fnExactIsMooreGraphRow.holds Tryd.pinned (OpenSpec.ofChange fnExactIsMooreGraphWrong)

/-- 'laws.FnExactFoldedGraph': WHATEVER THE INPUT: true; the input reads as it did. -/
def fnExactFoldedGraphSpec : ChangeSpec := { name := "fnExactFoldedGraph", fn := fun _ => fun
  | [d] => { results := [.lit (.bool true)], args := [d] }
  | _ => none }
def fnExactFoldedGraphRow : OpenClaim := { program := "ytkmpkcofddpdgaadoor", sum := "b34294dea3881cf44c451d85e228d2cd3fd7f05132048ec2f5821091a43b6d56", func := "loop.example/g01331/laws.FnExactFoldedGraph", spec := "fnExactFoldedGraph", named := ["math/bits.deBruijn64tab"], apart := false, laid := [("math/bits.deBruijn64tab", laid_math_bits_deBruijn64tab)] }
def FnExactFoldedGraphSaid : Prop := fnExactFoldedGraphRow.holds Tryd.pinned (OpenSpec.ofChange fnExactFoldedGraphSpec)

/-- ITS FALSE NEIGHBOUR: 'it returns false'. Refute it at one input. -/
def fnExactFoldedGraphWrong : ChangeSpec := { name := "fnExactFoldedGraph", fn := fun _ => fun
  | [d] => { results := [.lit (.bool false)], args := [d] }
  | _ => none }
def FnExactFoldedGraphWrongFalsely : Prop := fnExactFoldedGraphRow.holds Tryd.pinned (OpenSpec.ofChange fnExactFoldedGraphWrong)

/- THE SECOND FORM. 'bulk': how many values and letters a reading holds, each counted each time it is reached (what is shared counts as often as it is met; a slice's spare places count too). A statement '..UptoSaid' is the law's where the arguments, and the package variables that the reading takes, are together of bulk at most 1048576: NARROWER than '..Said'. Prove '..Said' where nothing that the law and all that it calls make is longer than what came in: it says more and counts as full. Else prove '..UptoSaid'. A law counts once. -/
mutual
def uptoBulk {H : Type} : DataW H → Nat
  | .lit (.string bytes) => bytes.length + 1
  | .lit _ => 1
  | .nil => 1
  | .ptr d => uptoBulk d + 1
  | .slice elems spare => uptoBulkAll elems + uptoBulkAll spare + 1
  | .agg parts => uptoBulkAll parts + 1
  | .iface _ d => uptoBulk d + 1
  | .map entries => uptoBulkEntries entries + 1
  | .held _ => 1
def uptoBulkAll {H : Type} : List (DataW H) → Nat
  | [] => 0
  | d :: r => uptoBulk d + uptoBulkAll r
def uptoBulkEntries {H : Type} : List (Lit × DataW H) → Nat
  | [] => 0
  | x :: r => uptoBulkEntry x + uptoBulkEntries r
def uptoBulkEntry {H : Type} : Lit × DataW H → Nat
  | (.string bytes, d) => bytes.length + uptoBulk d + 1
  | (_, d) => uptoBulk d + 1
 end
def uptoSmall : (H : Type) → List (DataW H) → Bool := fun _ ds => decide (uptoBulkAll ds ≤ 1048576)
def OpenSpec.upto (s : _root_.Go.ChangeSpec) : _root_.Go.OpenSpec := { _root_.Go.OpenSpec.ofChange s with cond := some uptoSmall }

/-- 'laws.FnExactGraphAt', WHERE WHAT IT READS IS OF BULK AT MOST 1048576: true; the input reads as it did. -/
def fnExactGraphAtUptoRow : OpenClaim := { program := "ytkmpkcofddpdgaadoor", sum := "b34294dea3881cf44c451d85e228d2cd3fd7f05132048ec2f5821091a43b6d56", func := "loop.example/g01331/laws.FnExactGraphAt", spec := "fnExactGraphAt", named := ["math/bits.deBruijn64tab"], apart := false, laid := [("math/bits.deBruijn64tab", laid_math_bits_deBruijn64tab)], narrowed := true }
def FnExactGraphAtUptoSaid : Prop := fnExactGraphAtUptoRow.holds Tryd.pinned (OpenSpec.upto fnExactGraphAtSpec)

/-- 'laws.FnExactWordGirth', WHERE WHAT IT READS IS OF BULK AT MOST 1048576: true; the input reads as it did. -/
def fnExactWordGirthUptoRow : OpenClaim := { program := "ytkmpkcofddpdgaadoor", sum := "b34294dea3881cf44c451d85e228d2cd3fd7f05132048ec2f5821091a43b6d56", func := "loop.example/g01331/laws.FnExactWordGirth", spec := "fnExactWordGirth", named := ["math/bits.deBruijn64tab"], apart := false, laid := [("math/bits.deBruijn64tab", laid_math_bits_deBruijn64tab)], narrowed := true }
def FnExactWordGirthUptoSaid : Prop := fnExactWordGirthUptoRow.holds Tryd.pinned (OpenSpec.upto fnExactWordGirthSpec)

/-- 'laws.FnExactIsAntipodal', WHERE WHAT IT READS IS OF BULK AT MOST 1048576: true; the input reads as it did. -/
def fnExactIsAntipodalUptoRow : OpenClaim := { program := "ytkmpkcofddpdgaadoor", sum := "b34294dea3881cf44c451d85e228d2cd3fd7f05132048ec2f5821091a43b6d56", func := "loop.example/g01331/laws.FnExactIsAntipodal", spec := "fnExactIsAntipodal", named := ["math/bits.deBruijn64tab"], apart := false, laid := [("math/bits.deBruijn64tab", laid_math_bits_deBruijn64tab)], narrowed := true }
def FnExactIsAntipodalUptoSaid : Prop := fnExactIsAntipodalUptoRow.holds Tryd.pinned (OpenSpec.upto fnExactIsAntipodalSpec)

/-- 'laws.FnExactFitsBoth', WHERE WHAT IT READS IS OF BULK AT MOST 1048576: true; the input reads as it did. -/
def fnExactFitsBothUptoRow : OpenClaim := { program := "ytkmpkcofddpdgaadoor", sum := "b34294dea3881cf44c451d85e228d2cd3fd7f05132048ec2f5821091a43b6d56", func := "loop.example/g01331/laws.FnExactFitsBoth", spec := "fnExactFitsBoth", named := ["math/bits.deBruijn64tab"], apart := false, laid := [("math/bits.deBruijn64tab", laid_math_bits_deBruijn64tab)], narrowed := true }
def FnExactFitsBothUptoSaid : Prop := fnExactFitsBothUptoRow.holds Tryd.pinned (OpenSpec.upto fnExactFitsBothSpec)

/-- 'laws.FnExactIsMooreDigraph', WHERE WHAT IT READS IS OF BULK AT MOST 1048576: true; the input reads as it did. -/
def fnExactIsMooreDigraphUptoRow : OpenClaim := { program := "ytkmpkcofddpdgaadoor", sum := "b34294dea3881cf44c451d85e228d2cd3fd7f05132048ec2f5821091a43b6d56", func := "loop.example/g01331/laws.FnExactIsMooreDigraph", spec := "fnExactIsMooreDigraph", unfollowed := true, recurses := true, named := ["math/bits.deBruijn64tab"], apart := false, laid := [("math/bits.deBruijn64tab", laid_math_bits_deBruijn64tab)], narrowed := true }
def FnExactIsMooreDigraphUptoSaid : Prop := fnExactIsMooreDigraphUptoRow.holds Tryd.pinned (OpenSpec.upto fnExactIsMooreDigraphSpec)

/-- 'laws.FnExactIsDistanceRegular', WHERE WHAT IT READS IS OF BULK AT MOST 1048576: true; the input reads as it did. -/
def fnExactIsDistanceRegularUptoRow : OpenClaim := { program := "ytkmpkcofddpdgaadoor", sum := "b34294dea3881cf44c451d85e228d2cd3fd7f05132048ec2f5821091a43b6d56", func := "loop.example/g01331/laws.FnExactIsDistanceRegular", spec := "fnExactIsDistanceRegular", named := ["math/bits.deBruijn64tab"], apart := false, laid := [("math/bits.deBruijn64tab", laid_math_bits_deBruijn64tab)], narrowed := true }
def FnExactIsDistanceRegularUptoSaid : Prop := fnExactIsDistanceRegularUptoRow.holds Tryd.pinned (OpenSpec.upto fnExactIsDistanceRegularSpec)

/-- 'laws.FnExactDefectOf', WHERE WHAT IT READS IS OF BULK AT MOST 1048576: true; the input reads as it did. -/
def fnExactDefectOfUptoRow : OpenClaim := { program := "ytkmpkcofddpdgaadoor", sum := "b34294dea3881cf44c451d85e228d2cd3fd7f05132048ec2f5821091a43b6d56", func := "loop.example/g01331/laws.FnExactDefectOf", spec := "fnExactDefectOf", named := ["math/bits.deBruijn64tab"], apart := false, laid := [("math/bits.deBruijn64tab", laid_math_bits_deBruijn64tab)], narrowed := true }
def FnExactDefectOfUptoSaid : Prop := fnExactDefectOfUptoRow.holds Tryd.pinned (OpenSpec.upto fnExactDefectOfSpec)

/-- 'laws.FnExactExcessOf', WHERE WHAT IT READS IS OF BULK AT MOST 1048576: true; the input reads as it did. -/
def fnExactExcessOfUptoRow : OpenClaim := { program := "ytkmpkcofddpdgaadoor", sum := "b34294dea3881cf44c451d85e228d2cd3fd7f05132048ec2f5821091a43b6d56", func := "loop.example/g01331/laws.FnExactExcessOf", spec := "fnExactExcessOf", named := ["math/bits.deBruijn64tab"], apart := false, laid := [("math/bits.deBruijn64tab", laid_math_bits_deBruijn64tab)], narrowed := true }
def FnExactExcessOfUptoSaid : Prop := fnExactExcessOfUptoRow.holds Tryd.pinned (OpenSpec.upto fnExactExcessOfSpec)

/-- 'laws.FnExactArraysOf', WHERE WHAT IT READS IS OF BULK AT MOST 1048576: true; the input reads as it did. -/
def fnExactArraysOfUptoRow : OpenClaim := { program := "ytkmpkcofddpdgaadoor", sum := "b34294dea3881cf44c451d85e228d2cd3fd7f05132048ec2f5821091a43b6d56", func := "loop.example/g01331/laws.FnExactArraysOf", spec := "fnExactArraysOf", named := ["math/bits.deBruijn64tab"], apart := false, laid := [("math/bits.deBruijn64tab", laid_math_bits_deBruijn64tab)], narrowed := true }
def FnExactArraysOfUptoSaid : Prop := fnExactArraysOfUptoRow.holds Tryd.pinned (OpenSpec.upto fnExactArraysOfSpec)

/-- 'laws.FnExactIsMooreGraph', WHERE WHAT IT READS IS OF BULK AT MOST 1048576: true; the input reads as it did. -/
def fnExactIsMooreGraphUptoRow : OpenClaim := { program := "ytkmpkcofddpdgaadoor", sum := "b34294dea3881cf44c451d85e228d2cd3fd7f05132048ec2f5821091a43b6d56", func := "loop.example/g01331/laws.FnExactIsMooreGraph", spec := "fnExactIsMooreGraph", named := ["math/bits.deBruijn64tab"], apart := false, laid := [("math/bits.deBruijn64tab", laid_math_bits_deBruijn64tab)], narrowed := true }
def FnExactIsMooreGraphUptoSaid : Prop := fnExactIsMooreGraphUptoRow.holds Tryd.pinned (OpenSpec.upto fnExactIsMooreGraphSpec)

/-- 'laws.FnExactFoldedGraph', WHERE WHAT IT READS IS OF BULK AT MOST 1048576: true; the input reads as it did. -/
def fnExactFoldedGraphUptoRow : OpenClaim := { program := "ytkmpkcofddpdgaadoor", sum := "b34294dea3881cf44c451d85e228d2cd3fd7f05132048ec2f5821091a43b6d56", func := "loop.example/g01331/laws.FnExactFoldedGraph", spec := "fnExactFoldedGraph", named := ["math/bits.deBruijn64tab"], apart := false, laid := [("math/bits.deBruijn64tab", laid_math_bits_deBruijn64tab)], narrowed := true }
def FnExactFoldedGraphUptoSaid : Prop := fnExactFoldedGraphUptoRow.holds Tryd.pinned (OpenSpec.upto fnExactFoldedGraphSpec)

end Rows
end Go.Proofs.YtkmpkcofddpdgaaDoor
