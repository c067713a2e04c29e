/-
  NARROWER THAN 'FOR EVERY INPUT', by the rows' own cells (each row's printed sentence says how): FnExactCountWalks: laid · FnExactCountClosedAt: laid · FnExactArcsOf: laid · FnExactLineDigraph: laid · FnExactSubdivideGraph: laid · FnExactLineGraph: laid · FnExactInflateGraph: laid · FnExactPowerOf: laid · FnExactGraphAt: laid · FnExactWordGirth: laid · FnExactIsStrong: laid · FnExactDiameterOfDigraph: laid.
  DERIVED. THE GIVEN ROWS OF THIS SEAT. 12 by the template 'for every input the law returns true; each argument reads behind the call as it read before'; 0 by the template 'total and deterministic' (their statements: YtobkdanoipociaaDoorTotals.lean).
  GIVEN WITH THE SEED: the statements are not yours to turn. If you find one false, say at which input.
  Laid BY PROGRAM, IN A SANDBOX (cutbox-rows.mjs): the forced cells as the released guide's own fill.sh prints them over the translation f2dbfba244fe9f87… (all of the seat's roots in one cut). By AI agents, Wed Nov 11 2026. No macro, syntax, notation, axiom, sorry.
-/
import Derived.Test.YtobkdanoipociaaDoorChecked
import GoSem.Claim
import GoSem.ClaimJoined
import GoSem.ClaimMapViews
import Derived.JoinedTies
import Derived.KernelRfl
namespace Go.Proofs.YtobkdanoipociaaDoor
/- THE CELL 'sum', in the pinned program and in every row, IS THE sha256 OF THE DUMP (.gsa) THAT YtobkdanoipociaaDoorProg.lean LOADS. Nothing in Lean hashes anything: it is a label: what it is worth is what the hold of that sum in a sandbox is worth. -/
noncomputable def Tryd.pinned : Pinned := { name := "ytobkdanoipociaadoor", sum := "f2dbfba244fe9f87b7762420d854a17848f87df64ec1fdc2b4fda0859fce3b00", checked := Tryd.checked }
namespace Rows
def none {H : Type} : Left H := { results := [], args := [] }

/- WHAT THE LISTED PACKAGE-LEVEL VARIABLES READ AS WHEN THE CALL BEGINS. Each datum BY PROGRAM (the guide's laid-datum.mjs) off the statement by which the dump's own 'gosem.cut.vars' lays the variable. In a bare row this is a premise. The card (YtobkdanoipociaaDoorCards.lean) ties it to the program's text. -/
def laid_math_bits_deBruijn64tab {H : Type} : DataW H := .agg [.lit (.int .u8 0), .lit (.int .u8 1), .lit (.int .u8 56), .lit (.int .u8 2), .lit (.int .u8 57), .lit (.int .u8 49), .lit (.int .u8 28), .lit (.int .u8 3), .lit (.int .u8 61), .lit (.int .u8 58), .lit (.int .u8 42), .lit (.int .u8 50), .lit (.int .u8 38), .lit (.int .u8 29), .lit (.int .u8 17), .lit (.int .u8 4), .lit (.int .u8 62), .lit (.int .u8 47), .lit (.int .u8 59), .lit (.int .u8 36), .lit (.int .u8 45), .lit (.int .u8 43), .lit (.int .u8 51), .lit (.int .u8 22), .lit (.int .u8 53), .lit (.int .u8 39), .lit (.int .u8 33), .lit (.int .u8 30), .lit (.int .u8 24), .lit (.int .u8 18), .lit (.int .u8 12), .lit (.int .u8 5), .lit (.int .u8 63), .lit (.int .u8 55), .lit (.int .u8 48), .lit (.int .u8 27), .lit (.int .u8 60), .lit (.int .u8 41), .lit (.int .u8 37), .lit (.int .u8 16), .lit (.int .u8 46), .lit (.int .u8 35), .lit (.int .u8 44), .lit (.int .u8 21), .lit (.int .u8 52), .lit (.int .u8 32), .lit (.int .u8 23), .lit (.int .u8 11), .lit (.int .u8 54), .lit (.int .u8 26), .lit (.int .u8 40), .lit (.int .u8 15), .lit (.int .u8 34), .lit (.int .u8 20), .lit (.int .u8 31), .lit (.int .u8 10), .lit (.int .u8 25), .lit (.int .u8 14), .lit (.int .u8 19), .lit (.int .u8 9), .lit (.int .u8 13), .lit (.int .u8 8), .lit (.int .u8 7), .lit (.int .u8 6)]

/-- 'laws.FnExactCountWalks': WHATEVER THE INPUT: true; the input reads as it did. -/
def fnExactCountWalksSpec : ChangeSpec := { name := "fnExactCountWalks", fn := fun _ => fun
  | [d1, d2, d3, d4] => { results := [.lit (.bool true)], args := [d1, d2, d3, d4] }
  | _ => none }
def fnExactCountWalksRow : OpenClaim := { program := "ytobkdanoipociaadoor", sum := "f2dbfba244fe9f87b7762420d854a17848f87df64ec1fdc2b4fda0859fce3b00", func := "loop.example/g01331/laws.FnExactCountWalks", spec := "fnExactCountWalks", unfollowed := true, recurses := true, named := ["math/bits.deBruijn64tab"], apart := false, laid := [("math/bits.deBruijn64tab", laid_math_bits_deBruijn64tab)] }
def FnExactCountWalksSaid : Prop := fnExactCountWalksRow.holds Tryd.pinned (OpenSpec.ofChange fnExactCountWalksSpec)

/-- ITS FALSE NEIGHBOUR: 'it returns false'. Refute it at one input. -/
def fnExactCountWalksWrong : ChangeSpec := { name := "fnExactCountWalks", fn := fun _ => fun
  | [d1, d2, d3, d4] => { results := [.lit (.bool false)], args := [d1, d2, d3, d4] }
  | _ => none }
def FnExactCountWalksWrongFalsely : Prop := fnExactCountWalksRow.holds Tryd.pinned (OpenSpec.ofChange fnExactCountWalksWrong)

/-- 'laws.FnExactCountClosedAt': WHATEVER THE INPUT: true; the input reads as it did. -/
def fnExactCountClosedAtSpec : ChangeSpec := { name := "fnExactCountClosedAt", fn := fun _ => fun
  | [d1, d2, d3] => { results := [.lit (.bool true)], args := [d1, d2, d3] }
  | _ => none }
def fnExactCountClosedAtRow : OpenClaim := { program := "ytobkdanoipociaadoor", sum := "f2dbfba244fe9f87b7762420d854a17848f87df64ec1fdc2b4fda0859fce3b00", func := "loop.example/g01331/laws.FnExactCountClosedAt", spec := "fnExactCountClosedAt", named := ["math/bits.deBruijn64tab"], apart := false, laid := [("math/bits.deBruijn64tab", laid_math_bits_deBruijn64tab)] }
def FnExactCountClosedAtSaid : Prop := fnExactCountClosedAtRow.holds Tryd.pinned (OpenSpec.ofChange fnExactCountClosedAtSpec)

/-- ITS FALSE NEIGHBOUR: 'it returns false'. Refute it at one input. -/
def fnExactCountClosedAtWrong : ChangeSpec := { name := "fnExactCountClosedAt", fn := fun _ => fun
  | [d1, d2, d3] => { results := [.lit (.bool false)], args := [d1, d2, d3] }
  | _ => none }
def FnExactCountClosedAtWrongFalsely : Prop := fnExactCountClosedAtRow.holds Tryd.pinned (OpenSpec.ofChange fnExactCountClosedAtWrong)

/-- 'laws.FnExactArcsOf': WHATEVER THE INPUT: true; the input reads as it did. -/
def fnExactArcsOfSpec : ChangeSpec := { name := "fnExactArcsOf", fn := fun _ => fun
  | [d] => { results := [.lit (.bool true)], args := [d] }
  | _ => none }
def fnExactArcsOfRow : OpenClaim := { program := "ytobkdanoipociaadoor", sum := "f2dbfba244fe9f87b7762420d854a17848f87df64ec1fdc2b4fda0859fce3b00", func := "loop.example/g01331/laws.FnExactArcsOf", spec := "fnExactArcsOf", unfollowed := true, recurses := true, named := ["math/bits.deBruijn64tab"], apart := false, laid := [("math/bits.deBruijn64tab", laid_math_bits_deBruijn64tab)] }
def FnExactArcsOfSaid : Prop := fnExactArcsOfRow.holds Tryd.pinned (OpenSpec.ofChange fnExactArcsOfSpec)

/-- ITS FALSE NEIGHBOUR: 'it returns false'. Refute it at one input. -/
def fnExactArcsOfWrong : ChangeSpec := { name := "fnExactArcsOf", fn := fun _ => fun
  | [d] => { results := [.lit (.bool false)], args := [d] }
  | _ => none }
def FnExactArcsOfWrongFalsely : Prop := fnExactArcsOfRow.holds Tryd.pinned (OpenSpec.ofChange fnExactArcsOfWrong)

/-- 'laws.FnExactLineDigraph': WHATEVER THE INPUT: true; the input reads as it did. -/
def fnExactLineDigraphSpec : ChangeSpec := { name := "fnExactLineDigraph", fn := fun _ => fun
  | [d] => { results := [.lit (.bool true)], args := [d] }
  | _ => none }
def fnExactLineDigraphRow : OpenClaim := { program := "ytobkdanoipociaadoor", sum := "f2dbfba244fe9f87b7762420d854a17848f87df64ec1fdc2b4fda0859fce3b00", func := "loop.example/g01331/laws.FnExactLineDigraph", spec := "fnExactLineDigraph", unfollowed := true, recurses := true, named := ["math/bits.deBruijn64tab"], apart := false, laid := [("math/bits.deBruijn64tab", laid_math_bits_deBruijn64tab)] }
def FnExactLineDigraphSaid : Prop := fnExactLineDigraphRow.holds Tryd.pinned (OpenSpec.ofChange fnExactLineDigraphSpec)

/-- ITS FALSE NEIGHBOUR: 'it returns false'. Refute it at one input. -/
def fnExactLineDigraphWrong : ChangeSpec := { name := "fnExactLineDigraph", fn := fun _ => fun
  | [d] => { results := [.lit (.bool false)], args := [d] }
  | _ => none }
def FnExactLineDigraphWrongFalsely : Prop := fnExactLineDigraphRow.holds Tryd.pinned (OpenSpec.ofChange fnExactLineDigraphWrong)

/-- 'laws.FnExactSubdivideGraph': WHATEVER THE INPUT: true; the input reads as it did. -/
def fnExactSubdivideGraphSpec : ChangeSpec := { name := "fnExactSubdivideGraph", fn := fun _ => fun
  | [d] => { results := [.lit (.bool true)], args := [d] }
  | _ => none }
def fnExactSubdivideGraphRow : OpenClaim := { program := "ytobkdanoipociaadoor", sum := "f2dbfba244fe9f87b7762420d854a17848f87df64ec1fdc2b4fda0859fce3b00", func := "loop.example/g01331/laws.FnExactSubdivideGraph", spec := "fnExactSubdivideGraph", named := ["math/bits.deBruijn64tab"], apart := false, laid := [("math/bits.deBruijn64tab", laid_math_bits_deBruijn64tab)] }
def FnExactSubdivideGraphSaid : Prop := fnExactSubdivideGraphRow.holds Tryd.pinned (OpenSpec.ofChange fnExactSubdivideGraphSpec)

/-- ITS FALSE NEIGHBOUR: 'it returns false'. Refute it at one input. -/
def fnExactSubdivideGraphWrong : ChangeSpec := { name := "fnExactSubdivideGraph", fn := fun _ => fun
  | [d] => { results := [.lit (.bool false)], args := [d] }
  | _ => none }
def FnExactSubdivideGraphWrongFalsely : Prop := fnExactSubdivideGraphRow.holds Tryd.pinned (OpenSpec.ofChange fnExactSubdivideGraphWrong)

/-- 'laws.FnExactLineGraph': WHATEVER THE INPUT: true; the input reads as it did. -/
def fnExactLineGraphSpec : ChangeSpec := { name := "fnExactLineGraph", fn := fun _ => fun
  | [d] => { results := [.lit (.bool true)], args := [d] }
  | _ => none }
def fnExactLineGraphRow : OpenClaim := { program := "ytobkdanoipociaadoor", sum := "f2dbfba244fe9f87b7762420d854a17848f87df64ec1fdc2b4fda0859fce3b00", func := "loop.example/g01331/laws.FnExactLineGraph", spec := "fnExactLineGraph", unfollowed := true, recurses := true, named := ["math/bits.deBruijn64tab"], apart := false, laid := [("math/bits.deBruijn64tab", laid_math_bits_deBruijn64tab)] }
def FnExactLineGraphSaid : Prop := fnExactLineGraphRow.holds Tryd.pinned (OpenSpec.ofChange fnExactLineGraphSpec)

/-- ITS FALSE NEIGHBOUR: 'it returns false'. Refute it at one input. -/
def fnExactLineGraphWrong : ChangeSpec := { name := "fnExactLineGraph", fn := fun _ => fun
  | [d] => { results := [.lit (.bool false)], args := [d] }
  | _ => none }
def FnExactLineGraphWrongFalsely : Prop := fnExactLineGraphRow.holds Tryd.pinned (OpenSpec.ofChange fnExactLineGraphWrong)

/-- 'laws.FnExactInflateGraph': WHATEVER THE INPUT: true; the input reads as it did. -/
def fnExactInflateGraphSpec : ChangeSpec := { name := "fnExactInflateGraph", fn := fun _ => fun
  | [d] => { results := [.lit (.bool true)], args := [d] }
  | _ => none }
def fnExactInflateGraphRow : OpenClaim := { program := "ytobkdanoipociaadoor", sum := "f2dbfba244fe9f87b7762420d854a17848f87df64ec1fdc2b4fda0859fce3b00", func := "loop.example/g01331/laws.FnExactInflateGraph", spec := "fnExactInflateGraph", unfollowed := true, recurses := true, named := ["math/bits.deBruijn64tab"], apart := false, laid := [("math/bits.deBruijn64tab", laid_math_bits_deBruijn64tab)] }
def FnExactInflateGraphSaid : Prop := fnExactInflateGraphRow.holds Tryd.pinned (OpenSpec.ofChange fnExactInflateGraphSpec)

/-- ITS FALSE NEIGHBOUR: 'it returns false'. Refute it at one input. -/
def fnExactInflateGraphWrong : ChangeSpec := { name := "fnExactInflateGraph", fn := fun _ => fun
  | [d] => { results := [.lit (.bool false)], args := [d] }
  | _ => none }
def FnExactInflateGraphWrongFalsely : Prop := fnExactInflateGraphRow.holds Tryd.pinned (OpenSpec.ofChange fnExactInflateGraphWrong)

/-- 'laws.FnExactPowerOf': WHATEVER THE INPUT: true; the input reads as it did. -/
def fnExactPowerOfSpec : ChangeSpec := { name := "fnExactPowerOf", fn := fun _ => fun
  | [d1, d2] => { results := [.lit (.bool true)], args := [d1, d2] }
  | _ => none }
def fnExactPowerOfRow : OpenClaim := { program := "ytobkdanoipociaadoor", sum := "f2dbfba244fe9f87b7762420d854a17848f87df64ec1fdc2b4fda0859fce3b00", func := "loop.example/g01331/laws.FnExactPowerOf", spec := "fnExactPowerOf", named := ["math/bits.deBruijn64tab"], apart := false, laid := [("math/bits.deBruijn64tab", laid_math_bits_deBruijn64tab)] }
def FnExactPowerOfSaid : Prop := fnExactPowerOfRow.holds Tryd.pinned (OpenSpec.ofChange fnExactPowerOfSpec)

/-- ITS FALSE NEIGHBOUR: 'it returns false'. Refute it at one input. -/
def fnExactPowerOfWrong : ChangeSpec := { name := "fnExactPowerOf", fn := fun _ => fun
  | [d1, d2] => { results := [.lit (.bool false)], args := [d1, d2] }
  | _ => none }
def FnExactPowerOfWrongFalsely : Prop := fnExactPowerOfRow.holds Tryd.pinned (OpenSpec.ofChange fnExactPowerOfWrong)

/-- 'laws.FnExactGraphAt': WHATEVER THE INPUT: true; the input reads as it did. -/
def fnExactGraphAtSpec : ChangeSpec := { name := "fnExactGraphAt", fn := fun _ => fun
  | [d1, d2] => { results := [.lit (.bool true)], args := [d1, d2] }
  | _ => none }
def fnExactGraphAtRow : OpenClaim := { program := "ytobkdanoipociaadoor", sum := "f2dbfba244fe9f87b7762420d854a17848f87df64ec1fdc2b4fda0859fce3b00", func := "loop.example/g01331/laws.FnExactGraphAt", spec := "fnExactGraphAt", named := ["math/bits.deBruijn64tab"], apart := false, laid := [("math/bits.deBruijn64tab", laid_math_bits_deBruijn64tab)] }
def FnExactGraphAtSaid : Prop := fnExactGraphAtRow.holds Tryd.pinned (OpenSpec.ofChange fnExactGraphAtSpec)

/-- ITS FALSE NEIGHBOUR: 'it returns false'. Refute it at one input. -/
def fnExactGraphAtWrong : ChangeSpec := { name := "fnExactGraphAt", fn := fun _ => fun
  | [d1, d2] => { results := [.lit (.bool false)], args := [d1, d2] }
  | _ => none }
def FnExactGraphAtWrongFalsely : Prop := fnExactGraphAtRow.holds Tryd.pinned (OpenSpec.ofChange fnExactGraphAtWrong)

/-- 'laws.FnExactWordGirth': WHATEVER THE INPUT: true; the input reads as it did. -/
def fnExactWordGirthSpec : ChangeSpec := { name := "fnExactWordGirth", fn := fun _ => fun
  | [d1, d2] => { results := [.lit (.bool true)], args := [d1, d2] }
  | _ => none }
def fnExactWordGirthRow : OpenClaim := { program := "ytobkdanoipociaadoor", sum := "f2dbfba244fe9f87b7762420d854a17848f87df64ec1fdc2b4fda0859fce3b00", func := "loop.example/g01331/laws.FnExactWordGirth", spec := "fnExactWordGirth", named := ["math/bits.deBruijn64tab"], apart := false, laid := [("math/bits.deBruijn64tab", laid_math_bits_deBruijn64tab)] }
def FnExactWordGirthSaid : Prop := fnExactWordGirthRow.holds Tryd.pinned (OpenSpec.ofChange fnExactWordGirthSpec)

/-- ITS FALSE NEIGHBOUR: 'it returns false'. Refute it at one input. -/
def fnExactWordGirthWrong : ChangeSpec := { name := "fnExactWordGirth", fn := fun _ => fun
  | [d1, d2] => { results := [.lit (.bool false)], args := [d1, d2] }
  | _ => none }
def FnExactWordGirthWrongFalsely : Prop := fnExactWordGirthRow.holds Tryd.pinned (OpenSpec.ofChange fnExactWordGirthWrong)

/-- 'laws.FnExactIsStrong': WHATEVER THE INPUT: true; the input reads as it did. -/
def fnExactIsStrongSpec : ChangeSpec := { name := "fnExactIsStrong", fn := fun _ => fun
  | [d] => { results := [.lit (.bool true)], args := [d] }
  | _ => none }
def fnExactIsStrongRow : OpenClaim := { program := "ytobkdanoipociaadoor", sum := "f2dbfba244fe9f87b7762420d854a17848f87df64ec1fdc2b4fda0859fce3b00", func := "loop.example/g01331/laws.FnExactIsStrong", spec := "fnExactIsStrong", unfollowed := true, recurses := true, named := ["math/bits.deBruijn64tab"], apart := false, laid := [("math/bits.deBruijn64tab", laid_math_bits_deBruijn64tab)] }
def FnExactIsStrongSaid : Prop := fnExactIsStrongRow.holds Tryd.pinned (OpenSpec.ofChange fnExactIsStrongSpec)

/-- ITS FALSE NEIGHBOUR: 'it returns false'. Refute it at one input. -/
def fnExactIsStrongWrong : ChangeSpec := { name := "fnExactIsStrong", fn := fun _ => fun
  | [d] => { results := [.lit (.bool false)], args := [d] }
  | _ => none }
def FnExactIsStrongWrongFalsely : Prop := fnExactIsStrongRow.holds Tryd.pinned (OpenSpec.ofChange fnExactIsStrongWrong)

/-- 'laws.FnExactDiameterOfDigraph': WHATEVER THE INPUT: true; the input reads as it did. -/
def fnExactDiameterOfDigraphSpec : ChangeSpec := { name := "fnExactDiameterOfDigraph", fn := fun _ => fun
  | [d] => { results := [.lit (.bool true)], args := [d] }
  | _ => none }
def fnExactDiameterOfDigraphRow : OpenClaim := { program := "ytobkdanoipociaadoor", sum := "f2dbfba244fe9f87b7762420d854a17848f87df64ec1fdc2b4fda0859fce3b00", func := "loop.example/g01331/laws.FnExactDiameterOfDigraph", spec := "fnExactDiameterOfDigraph", unfollowed := true, recurses := true, named := ["math/bits.deBruijn64tab"], apart := false, laid := [("math/bits.deBruijn64tab", laid_math_bits_deBruijn64tab)] }
def FnExactDiameterOfDigraphSaid : Prop := fnExactDiameterOfDigraphRow.holds Tryd.pinned (OpenSpec.ofChange fnExactDiameterOfDigraphSpec)

/-- ITS FALSE NEIGHBOUR: 'it returns false'. Refute it at one input. -/
def fnExactDiameterOfDigraphWrong : ChangeSpec := { name := "fnExactDiameterOfDigraph", fn := fun _ => fun
  | [d] => { results := [.lit (.bool false)], args := [d] }
  | _ => none }
def FnExactDiameterOfDigraphWrongFalsely : Prop := fnExactDiameterOfDigraphRow.holds Tryd.pinned (OpenSpec.ofChange fnExactDiameterOfDigraphWrong)

/- THE SECOND FORM. 'bulk': how many values and letters a reading holds, each counted each time it is reached (what is shared counts as often as it is met; a slice's spare places count too). A statement '..UptoSaid' is the law's where the arguments, and the package variables that the reading takes, are together of bulk at most 1048576: NARROWER than '..Said'. Prove '..Said' where nothing that the law and all that it calls make is longer than what came in: it says more and counts as full. Else prove '..UptoSaid'. A law counts once. -/
mutual
def uptoBulk {H : Type} : DataW H → Nat
  | .lit (.string bytes) => bytes.length + 1
  | .lit _ => 1
  | .nil => 1
  | .ptr d => uptoBulk d + 1
  | .slice elems spare => uptoBulkAll elems + uptoBulkAll spare + 1
  | .agg parts => uptoBulkAll parts + 1
  | .iface _ d => uptoBulk d + 1
  | .map entries => uptoBulkEntries entries + 1
  | .held _ => 1
def uptoBulkAll {H : Type} : List (DataW H) → Nat
  | [] => 0
  | d :: r => uptoBulk d + uptoBulkAll r
def uptoBulkEntries {H : Type} : List (Lit × DataW H) → Nat
  | [] => 0
  | x :: r => uptoBulkEntry x + uptoBulkEntries r
def uptoBulkEntry {H : Type} : Lit × DataW H → Nat
  | (.string bytes, d) => bytes.length + uptoBulk d + 1
  | (_, d) => uptoBulk d + 1
 end
def uptoSmall : (H : Type) → List (DataW H) → Bool := fun _ ds => decide (uptoBulkAll ds ≤ 1048576)
def OpenSpec.upto (s : _root_.Go.ChangeSpec) : _root_.Go.OpenSpec := { _root_.Go.OpenSpec.ofChange s with cond := some uptoSmall }

/-- 'laws.FnExactCountWalks', WHERE WHAT IT READS IS OF BULK AT MOST 1048576: true; the input reads as it did. -/
def fnExactCountWalksUptoRow : OpenClaim := { program := "ytobkdanoipociaadoor", sum := "f2dbfba244fe9f87b7762420d854a17848f87df64ec1fdc2b4fda0859fce3b00", func := "loop.example/g01331/laws.FnExactCountWalks", spec := "fnExactCountWalks", unfollowed := true, recurses := true, named := ["math/bits.deBruijn64tab"], apart := false, laid := [("math/bits.deBruijn64tab", laid_math_bits_deBruijn64tab)], narrowed := true }
def FnExactCountWalksUptoSaid : Prop := fnExactCountWalksUptoRow.holds Tryd.pinned (OpenSpec.upto fnExactCountWalksSpec)

/-- 'laws.FnExactCountClosedAt', WHERE WHAT IT READS IS OF BULK AT MOST 1048576: true; the input reads as it did. -/
def fnExactCountClosedAtUptoRow : OpenClaim := { program := "ytobkdanoipociaadoor", sum := "f2dbfba244fe9f87b7762420d854a17848f87df64ec1fdc2b4fda0859fce3b00", func := "loop.example/g01331/laws.FnExactCountClosedAt", spec := "fnExactCountClosedAt", named := ["math/bits.deBruijn64tab"], apart := false, laid := [("math/bits.deBruijn64tab", laid_math_bits_deBruijn64tab)], narrowed := true }
def FnExactCountClosedAtUptoSaid : Prop := fnExactCountClosedAtUptoRow.holds Tryd.pinned (OpenSpec.upto fnExactCountClosedAtSpec)

/-- 'laws.FnExactArcsOf', WHERE WHAT IT READS IS OF BULK AT MOST 1048576: true; the input reads as it did. -/
def fnExactArcsOfUptoRow : OpenClaim := { program := "ytobkdanoipociaadoor", sum := "f2dbfba244fe9f87b7762420d854a17848f87df64ec1fdc2b4fda0859fce3b00", func := "loop.example/g01331/laws.FnExactArcsOf", spec := "fnExactArcsOf", unfollowed := true, recurses := true, named := ["math/bits.deBruijn64tab"], apart := false, laid := [("math/bits.deBruijn64tab", laid_math_bits_deBruijn64tab)], narrowed := true }
def FnExactArcsOfUptoSaid : Prop := fnExactArcsOfUptoRow.holds Tryd.pinned (OpenSpec.upto fnExactArcsOfSpec)

/-- 'laws.FnExactLineDigraph', WHERE WHAT IT READS IS OF BULK AT MOST 1048576: true; the input reads as it did. -/
def fnExactLineDigraphUptoRow : OpenClaim := { program := "ytobkdanoipociaadoor", sum := "f2dbfba244fe9f87b7762420d854a17848f87df64ec1fdc2b4fda0859fce3b00", func := "loop.example/g01331/laws.FnExactLineDigraph", spec := "fnExactLineDigraph", unfollowed := true, recurses := true, named := ["math/bits.deBruijn64tab"], apart := false, laid := [("math/bits.deBruijn64tab", laid_math_bits_deBruijn64tab)], narrowed := true }
def FnExactLineDigraphUptoSaid : Prop := fnExactLineDigraphUptoRow.holds Tryd.pinned (OpenSpec.upto fnExactLineDigraphSpec)

/-- 'laws.FnExactSubdivideGraph', WHERE WHAT IT READS IS OF BULK AT MOST 1048576: true; the input reads as it did. -/
def fnExactSubdivideGraphUptoRow : OpenClaim := { program := "ytobkdanoipociaadoor", sum := "f2dbfba244fe9f87b7762420d854a17848f87df64ec1fdc2b4fda0859fce3b00", func := "loop.example/g01331/laws.FnExactSubdivideGraph", spec := "fnExactSubdivideGraph", named := ["math/bits.deBruijn64tab"], apart := false, laid := [("math/bits.deBruijn64tab", laid_math_bits_deBruijn64tab)], narrowed := true }
def FnExactSubdivideGraphUptoSaid : Prop := fnExactSubdivideGraphUptoRow.holds Tryd.pinned (OpenSpec.upto fnExactSubdivideGraphSpec)

/-- 'laws.FnExactLineGraph', WHERE WHAT IT READS IS OF BULK AT MOST 1048576: true; the input reads as it did. -/
def fnExactLineGraphUptoRow : OpenClaim := { program := "ytobkdanoipociaadoor", sum := "f2dbfba244fe9f87b7762420d854a17848f87df64ec1fdc2b4fda0859fce3b00", func := "loop.example/g01331/laws.FnExactLineGraph", spec := "fnExactLineGraph", unfollowed := true, recurses := true, named := ["math/bits.deBruijn64tab"], apart := false, laid := [("math/bits.deBruijn64tab", laid_math_bits_deBruijn64tab)], narrowed := true }
def FnExactLineGraphUptoSaid : Prop := fnExactLineGraphUptoRow.holds Tryd.pinned (OpenSpec.upto fnExactLineGraphSpec)

/-- 'laws.FnExactInflateGraph', WHERE WHAT IT READS IS OF BULK AT MOST 1048576: true; the input reads as it did. -/
def fnExactInflateGraphUptoRow : OpenClaim := { program := "ytobkdanoipociaadoor", sum := "f2dbfba244fe9f87b7762420d854a17848f87df64ec1fdc2b4fda0859fce3b00", func := "loop.example/g01331/laws.FnExactInflateGraph", spec := "fnExactInflateGraph", unfollowed := true, recurses := true, named := ["math/bits.deBruijn64tab"], apart := false, laid := [("math/bits.deBruijn64tab", laid_math_bits_deBruijn64tab)], narrowed := true }
def FnExactInflateGraphUptoSaid : Prop := fnExactInflateGraphUptoRow.holds Tryd.pinned (OpenSpec.upto fnExactInflateGraphSpec)

/-- 'laws.FnExactPowerOf', WHERE WHAT IT READS IS OF BULK AT MOST 1048576: true; the input reads as it did. -/
def fnExactPowerOfUptoRow : OpenClaim := { program := "ytobkdanoipociaadoor", sum := "f2dbfba244fe9f87b7762420d854a17848f87df64ec1fdc2b4fda0859fce3b00", func := "loop.example/g01331/laws.FnExactPowerOf", spec := "fnExactPowerOf", named := ["math/bits.deBruijn64tab"], apart := false, laid := [("math/bits.deBruijn64tab", laid_math_bits_deBruijn64tab)], narrowed := true }
def FnExactPowerOfUptoSaid : Prop := fnExactPowerOfUptoRow.holds Tryd.pinned (OpenSpec.upto fnExactPowerOfSpec)

/-- 'laws.FnExactGraphAt', WHERE WHAT IT READS IS OF BULK AT MOST 1048576: true; the input reads as it did. -/
def fnExactGraphAtUptoRow : OpenClaim := { program := "ytobkdanoipociaadoor", sum := "f2dbfba244fe9f87b7762420d854a17848f87df64ec1fdc2b4fda0859fce3b00", func := "loop.example/g01331/laws.FnExactGraphAt", spec := "fnExactGraphAt", named := ["math/bits.deBruijn64tab"], apart := false, laid := [("math/bits.deBruijn64tab", laid_math_bits_deBruijn64tab)], narrowed := true }
def FnExactGraphAtUptoSaid : Prop := fnExactGraphAtUptoRow.holds Tryd.pinned (OpenSpec.upto fnExactGraphAtSpec)

/-- 'laws.FnExactWordGirth', WHERE WHAT IT READS IS OF BULK AT MOST 1048576: true; the input reads as it did. -/
def fnExactWordGirthUptoRow : OpenClaim := { program := "ytobkdanoipociaadoor", sum := "f2dbfba244fe9f87b7762420d854a17848f87df64ec1fdc2b4fda0859fce3b00", func := "loop.example/g01331/laws.FnExactWordGirth", spec := "fnExactWordGirth", named := ["math/bits.deBruijn64tab"], apart := false, laid := [("math/bits.deBruijn64tab", laid_math_bits_deBruijn64tab)], narrowed := true }
def FnExactWordGirthUptoSaid : Prop := fnExactWordGirthUptoRow.holds Tryd.pinned (OpenSpec.upto fnExactWordGirthSpec)

/-- 'laws.FnExactIsStrong', WHERE WHAT IT READS IS OF BULK AT MOST 1048576: true; the input reads as it did. -/
def fnExactIsStrongUptoRow : OpenClaim := { program := "ytobkdanoipociaadoor", sum := "f2dbfba244fe9f87b7762420d854a17848f87df64ec1fdc2b4fda0859fce3b00", func := "loop.example/g01331/laws.FnExactIsStrong", spec := "fnExactIsStrong", unfollowed := true, recurses := true, named := ["math/bits.deBruijn64tab"], apart := false, laid := [("math/bits.deBruijn64tab", laid_math_bits_deBruijn64tab)], narrowed := true }
def FnExactIsStrongUptoSaid : Prop := fnExactIsStrongUptoRow.holds Tryd.pinned (OpenSpec.upto fnExactIsStrongSpec)

/-- 'laws.FnExactDiameterOfDigraph', WHERE WHAT IT READS IS OF BULK AT MOST 1048576: true; the input reads as it did. -/
def fnExactDiameterOfDigraphUptoRow : OpenClaim := { program := "ytobkdanoipociaadoor", sum := "f2dbfba244fe9f87b7762420d854a17848f87df64ec1fdc2b4fda0859fce3b00", func := "loop.example/g01331/laws.FnExactDiameterOfDigraph", spec := "fnExactDiameterOfDigraph", unfollowed := true, recurses := true, named := ["math/bits.deBruijn64tab"], apart := false, laid := [("math/bits.deBruijn64tab", laid_math_bits_deBruijn64tab)], narrowed := true }
def FnExactDiameterOfDigraphUptoSaid : Prop := fnExactDiameterOfDigraphUptoRow.holds Tryd.pinned (OpenSpec.upto fnExactDiameterOfDigraphSpec)

end Rows
end Go.Proofs.YtobkdanoipociaaDoor
