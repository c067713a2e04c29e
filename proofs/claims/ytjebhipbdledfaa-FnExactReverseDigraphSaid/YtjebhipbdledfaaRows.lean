/-
  No cell of these rows narrows 'for every input' (looked for: loops, veiled, ifaces, maps, wideKeys, modest, calm, conditions, laid).
  DERIVED. THE GIVEN ROWS OF THIS SEAT. 11 by the template 'for every input the law returns true; each argument reads behind the call as it read before'; 0 by the template 'total and deterministic' (their statements: YtjebhipbdledfaaTotals.lean).
  GIVEN WITH THE SEED: the statements are not yours to turn. If you find one false, say at which input.
  Laid BY PROGRAM, IN A SANDBOX (cutbox-rows.mjs): the forced cells as the released guide's own fill.sh prints them over the translation b7c8646dd7ec2d1a… (all of the seat's roots in one cut). By AI agents, Wed Nov 11 2026. No macro, syntax, notation, axiom, sorry.
-/
import Derived.Test.YtjebhipbdledfaaChecked
import GoSem.Claim
import GoSem.ClaimJoined
import GoSem.ClaimMapViews
import Derived.JoinedTies
import Derived.KernelRfl
namespace Go.Proofs.Ytjebhipbdledfaa
/- THE CELL 'sum', in the pinned program and in every row, IS THE sha256 OF THE DUMP (.gsa) THAT YtjebhipbdledfaaProg.lean LOADS. Nothing in Lean hashes anything: it is a label: what it is worth is what the hold of that sum in a sandbox is worth. -/
noncomputable def Try.pinned : Pinned := { name := "ytjebhipbdledfaa", sum := "b7c8646dd7ec2d1af09f5a2b879401094c822decc8ddf9d59413ce77c084684c", checked := Try.checked }
namespace Rows
def none {H : Type} : Left H := { results := [], args := [] }

/-- 'laws.FnExactDigraphBound': WHATEVER THE INPUT: true; the input reads as it did. -/
def fnExactDigraphBoundSpec : ChangeSpec := { name := "fnExactDigraphBound", fn := fun _ => fun
  | [d1, d2] => { results := [.lit (.bool true)], args := [d1, d2] }
  | _ => none }
def fnExactDigraphBoundRow : OpenClaim := { program := "ytjebhipbdledfaa", sum := "b7c8646dd7ec2d1af09f5a2b879401094c822decc8ddf9d59413ce77c084684c", func := "loop.example/g01331/laws.FnExactDigraphBound", spec := "fnExactDigraphBound", apart := false }
def FnExactDigraphBoundSaid : Prop := fnExactDigraphBoundRow.holds Try.pinned (OpenSpec.ofChange fnExactDigraphBoundSpec)

/-- ITS FALSE NEIGHBOUR: 'it returns false'. Refute it at one input. -/
def fnExactDigraphBoundWrong : ChangeSpec := { name := "fnExactDigraphBound", fn := fun _ => fun
  | [d1, d2] => { results := [.lit (.bool false)], args := [d1, d2] }
  | _ => none }
def FnExactDigraphBoundWrongFalsely : Prop := fnExactDigraphBoundRow.holds Try.pinned (OpenSpec.ofChange fnExactDigraphBoundWrong)

/-- 'laws.FnExactIsDigraph': WHATEVER THE INPUT: true; the input reads as it did. -/
def fnExactIsDigraphSpec : ChangeSpec := { name := "fnExactIsDigraph", fn := fun _ => fun
  | [d] => { results := [.lit (.bool true)], args := [d] }
  | _ => none }
def fnExactIsDigraphRow : OpenClaim := { program := "ytjebhipbdledfaa", sum := "b7c8646dd7ec2d1af09f5a2b879401094c822decc8ddf9d59413ce77c084684c", func := "loop.example/g01331/laws.FnExactIsDigraph", spec := "fnExactIsDigraph", unfollowed := true, recurses := true, apart := false }
def FnExactIsDigraphSaid : Prop := fnExactIsDigraphRow.holds Try.pinned (OpenSpec.ofChange fnExactIsDigraphSpec)

/-- ITS FALSE NEIGHBOUR: 'it returns false'. Refute it at one input. -/
def fnExactIsDigraphWrong : ChangeSpec := { name := "fnExactIsDigraph", fn := fun _ => fun
  | [d] => { results := [.lit (.bool false)], args := [d] }
  | _ => none }
def FnExactIsDigraphWrongFalsely : Prop := fnExactIsDigraphRow.holds Try.pinned (OpenSpec.ofChange fnExactIsDigraphWrong)

/-- 'laws.FnExactWordSequence': WHATEVER THE INPUT: true; the input reads as it did. -/
def fnExactWordSequenceSpec : ChangeSpec := { name := "fnExactWordSequence", fn := fun _ => fun
  | [d1, d2] => { results := [.lit (.bool true)], args := [d1, d2] }
  | _ => none }
def fnExactWordSequenceRow : OpenClaim := { program := "ytjebhipbdledfaa", sum := "b7c8646dd7ec2d1af09f5a2b879401094c822decc8ddf9d59413ce77c084684c", func := "loop.example/g01331/laws.FnExactWordSequence", spec := "fnExactWordSequence", unfollowed := true, recurses := true, apart := false }
def FnExactWordSequenceSaid : Prop := fnExactWordSequenceRow.holds Try.pinned (OpenSpec.ofChange fnExactWordSequenceSpec)

/-- ITS FALSE NEIGHBOUR: 'it returns false'. Refute it at one input. -/
def fnExactWordSequenceWrong : ChangeSpec := { name := "fnExactWordSequence", fn := fun _ => fun
  | [d1, d2] => { results := [.lit (.bool false)], args := [d1, d2] }
  | _ => none }
def FnExactWordSequenceWrongFalsely : Prop := fnExactWordSequenceRow.holds Try.pinned (OpenSpec.ofChange fnExactWordSequenceWrong)

/-- 'laws.FnExactProductIn': WHATEVER THE INPUT: true; the input reads as it did. -/
def fnExactProductInSpec : ChangeSpec := { name := "fnExactProductIn", fn := fun _ => fun
  | [d1, d2, d3] => { results := [.lit (.bool true)], args := [d1, d2, d3] }
  | _ => none }
def fnExactProductInRow : OpenClaim := { program := "ytjebhipbdledfaa", sum := "b7c8646dd7ec2d1af09f5a2b879401094c822decc8ddf9d59413ce77c084684c", func := "loop.example/g01331/laws.FnExactProductIn", spec := "fnExactProductIn", apart := false }
def FnExactProductInSaid : Prop := fnExactProductInRow.holds Try.pinned (OpenSpec.ofChange fnExactProductInSpec)

/-- ITS FALSE NEIGHBOUR: 'it returns false'. Refute it at one input. -/
def fnExactProductInWrong : ChangeSpec := { name := "fnExactProductIn", fn := fun _ => fun
  | [d1, d2, d3] => { results := [.lit (.bool false)], args := [d1, d2, d3] }
  | _ => none }
def FnExactProductInWrongFalsely : Prop := fnExactProductInRow.holds Try.pinned (OpenSpec.ofChange fnExactProductInWrong)

/-- 'laws.FnExactOrderOf': WHATEVER THE INPUT: true; the input reads as it did. -/
def fnExactOrderOfSpec : ChangeSpec := { name := "fnExactOrderOf", fn := fun _ => fun
  | [d1, d2] => { results := [.lit (.bool true)], args := [d1, d2] }
  | _ => none }
def fnExactOrderOfRow : OpenClaim := { program := "ytjebhipbdledfaa", sum := "b7c8646dd7ec2d1af09f5a2b879401094c822decc8ddf9d59413ce77c084684c", func := "loop.example/g01331/laws.FnExactOrderOf", spec := "fnExactOrderOf", apart := false }
def FnExactOrderOfSaid : Prop := fnExactOrderOfRow.holds Try.pinned (OpenSpec.ofChange fnExactOrderOfSpec)

/-- ITS FALSE NEIGHBOUR: 'it returns false'. Refute it at one input. -/
def fnExactOrderOfWrong : ChangeSpec := { name := "fnExactOrderOf", fn := fun _ => fun
  | [d1, d2] => { results := [.lit (.bool false)], args := [d1, d2] }
  | _ => none }
def FnExactOrderOfWrongFalsely : Prop := fnExactOrderOfRow.holds Try.pinned (OpenSpec.ofChange fnExactOrderOfWrong)

/-- 'laws.FnExactInverseIn': WHATEVER THE INPUT: true; the input reads as it did. -/
def fnExactInverseInSpec : ChangeSpec := { name := "fnExactInverseIn", fn := fun _ => fun
  | [d1, d2] => { results := [.lit (.bool true)], args := [d1, d2] }
  | _ => none }
def fnExactInverseInRow : OpenClaim := { program := "ytjebhipbdledfaa", sum := "b7c8646dd7ec2d1af09f5a2b879401094c822decc8ddf9d59413ce77c084684c", func := "loop.example/g01331/laws.FnExactInverseIn", spec := "fnExactInverseIn", apart := false }
def FnExactInverseInSaid : Prop := fnExactInverseInRow.holds Try.pinned (OpenSpec.ofChange fnExactInverseInSpec)

/-- ITS FALSE NEIGHBOUR: 'it returns false'. Refute it at one input. -/
def fnExactInverseInWrong : ChangeSpec := { name := "fnExactInverseIn", fn := fun _ => fun
  | [d1, d2] => { results := [.lit (.bool false)], args := [d1, d2] }
  | _ => none }
def FnExactInverseInWrongFalsely : Prop := fnExactInverseInRow.holds Try.pinned (OpenSpec.ofChange fnExactInverseInWrong)

/-- 'laws.FnExactKautzWords': WHATEVER THE INPUT: true; the input reads as it did. -/
def fnExactKautzWordsSpec : ChangeSpec := { name := "fnExactKautzWords", fn := fun _ => fun
  | [d1, d2] => { results := [.lit (.bool true)], args := [d1, d2] }
  | _ => none }
def fnExactKautzWordsRow : OpenClaim := { program := "ytjebhipbdledfaa", sum := "b7c8646dd7ec2d1af09f5a2b879401094c822decc8ddf9d59413ce77c084684c", func := "loop.example/g01331/laws.FnExactKautzWords", spec := "fnExactKautzWords", recurses := true, apart := false }
def FnExactKautzWordsSaid : Prop := fnExactKautzWordsRow.holds Try.pinned (OpenSpec.ofChange fnExactKautzWordsSpec)

/-- ITS FALSE NEIGHBOUR: 'it returns false'. Refute it at one input. -/
def fnExactKautzWordsWrong : ChangeSpec := { name := "fnExactKautzWords", fn := fun _ => fun
  | [d1, d2] => { results := [.lit (.bool false)], args := [d1, d2] }
  | _ => none }
def FnExactKautzWordsWrongFalsely : Prop := fnExactKautzWordsRow.holds Try.pinned (OpenSpec.ofChange fnExactKautzWordsWrong)

/-- 'laws.FnExactReverseDigraph': WHATEVER THE INPUT: true; the input reads as it did. -/
def fnExactReverseDigraphSpec : ChangeSpec := { name := "fnExactReverseDigraph", fn := fun _ => fun
  | [d] => { results := [.lit (.bool true)], args := [d] }
  | _ => none }
def fnExactReverseDigraphRow : OpenClaim := { program := "ytjebhipbdledfaa", sum := "b7c8646dd7ec2d1af09f5a2b879401094c822decc8ddf9d59413ce77c084684c", func := "loop.example/g01331/laws.FnExactReverseDigraph", spec := "fnExactReverseDigraph", unfollowed := true, recurses := true, apart := false }
def FnExactReverseDigraphSaid : Prop := fnExactReverseDigraphRow.holds Try.pinned (OpenSpec.ofChange fnExactReverseDigraphSpec)

/-- ITS FALSE NEIGHBOUR: 'it returns false'. Refute it at one input. -/
def fnExactReverseDigraphWrong : ChangeSpec := { name := "fnExactReverseDigraph", fn := fun _ => fun
  | [d] => { results := [.lit (.bool false)], args := [d] }
  | _ => none }
def FnExactReverseDigraphWrongFalsely : Prop := fnExactReverseDigraphRow.holds Try.pinned (OpenSpec.ofChange fnExactReverseDigraphWrong)

/-- 'laws.FnExactDigraphOf': WHATEVER THE INPUT: true; the input reads as it did. -/
def fnExactDigraphOfSpec : ChangeSpec := { name := "fnExactDigraphOf", fn := fun _ => fun
  | [d] => { results := [.lit (.bool true)], args := [d] }
  | _ => none }
def fnExactDigraphOfRow : OpenClaim := { program := "ytjebhipbdledfaa", sum := "b7c8646dd7ec2d1af09f5a2b879401094c822decc8ddf9d59413ce77c084684c", func := "loop.example/g01331/laws.FnExactDigraphOf", spec := "fnExactDigraphOf", apart := false }
def FnExactDigraphOfSaid : Prop := fnExactDigraphOfRow.holds Try.pinned (OpenSpec.ofChange fnExactDigraphOfSpec)

/-- ITS FALSE NEIGHBOUR: 'it returns false'. Refute it at one input. -/
def fnExactDigraphOfWrong : ChangeSpec := { name := "fnExactDigraphOf", fn := fun _ => fun
  | [d] => { results := [.lit (.bool false)], args := [d] }
  | _ => none }
def FnExactDigraphOfWrongFalsely : Prop := fnExactDigraphOfRow.holds Try.pinned (OpenSpec.ofChange fnExactDigraphOfWrong)

/-- 'laws.FnExactEdgesLeft': WHATEVER THE INPUT: true; the input reads as it did. -/
def fnExactEdgesLeftSpec : ChangeSpec := { name := "fnExactEdgesLeft", fn := fun _ => fun
  | [d1, d2] => { results := [.lit (.bool true)], args := [d1, d2] }
  | _ => none }
def fnExactEdgesLeftRow : OpenClaim := { program := "ytjebhipbdledfaa", sum := "b7c8646dd7ec2d1af09f5a2b879401094c822decc8ddf9d59413ce77c084684c", func := "loop.example/g01331/laws.FnExactEdgesLeft", spec := "fnExactEdgesLeft", apart := false }
def FnExactEdgesLeftSaid : Prop := fnExactEdgesLeftRow.holds Try.pinned (OpenSpec.ofChange fnExactEdgesLeftSpec)

/-- ITS FALSE NEIGHBOUR: 'it returns false'. Refute it at one input. -/
def fnExactEdgesLeftWrong : ChangeSpec := { name := "fnExactEdgesLeft", fn := fun _ => fun
  | [d1, d2] => { results := [.lit (.bool false)], args := [d1, d2] }
  | _ => none }
def FnExactEdgesLeftWrongFalsely : Prop := fnExactEdgesLeftRow.holds Try.pinned (OpenSpec.ofChange fnExactEdgesLeftWrong)

/-- 'laws.FnExactDegreesOf': WHATEVER THE INPUT: true; the input reads as it did. -/
def fnExactDegreesOfSpec : ChangeSpec := { name := "fnExactDegreesOf", fn := fun _ => fun
  | [d] => { results := [.lit (.bool true)], args := [d] }
  | _ => none }
def fnExactDegreesOfRow : OpenClaim := { program := "ytjebhipbdledfaa", sum := "b7c8646dd7ec2d1af09f5a2b879401094c822decc8ddf9d59413ce77c084684c", func := "loop.example/g01331/laws.FnExactDegreesOf", spec := "fnExactDegreesOf", apart := false }
def FnExactDegreesOfSaid : Prop := fnExactDegreesOfRow.holds Try.pinned (OpenSpec.ofChange fnExactDegreesOfSpec)

/-- ITS FALSE NEIGHBOUR: 'it returns false'. Refute it at one input. -/
def fnExactDegreesOfWrong : ChangeSpec := { name := "fnExactDegreesOf", fn := fun _ => fun
  | [d] => { results := [.lit (.bool false)], args := [d] }
  | _ => none }
def FnExactDegreesOfWrongFalsely : Prop := fnExactDegreesOfRow.holds Try.pinned (OpenSpec.ofChange fnExactDegreesOfWrong)

/- THE SECOND FORM. 'bulk': how many values and letters a reading holds, each counted each time it is reached (what is shared counts as often as it is met; a slice's spare places count too). A statement '..UptoSaid' is the law's where the arguments, and the package variables that the reading takes, are together of bulk at most 1048576: NARROWER than '..Said'. Prove '..Said' where nothing that the law and all that it calls make is longer than what came in: it says more and counts as full. Else prove '..UptoSaid'. A law counts once. -/
mutual
def uptoBulk {H : Type} : DataW H → Nat
  | .lit (.string bytes) => bytes.length + 1
  | .lit _ => 1
  | .nil => 1
  | .ptr d => uptoBulk d + 1
  | .slice elems spare => uptoBulkAll elems + uptoBulkAll spare + 1
  | .agg parts => uptoBulkAll parts + 1
  | .iface _ d => uptoBulk d + 1
  | .map entries => uptoBulkEntries entries + 1
  | .held _ => 1
def uptoBulkAll {H : Type} : List (DataW H) → Nat
  | [] => 0
  | d :: r => uptoBulk d + uptoBulkAll r
def uptoBulkEntries {H : Type} : List (Lit × DataW H) → Nat
  | [] => 0
  | x :: r => uptoBulkEntry x + uptoBulkEntries r
def uptoBulkEntry {H : Type} : Lit × DataW H → Nat
  | (.string bytes, d) => bytes.length + uptoBulk d + 1
  | (_, d) => uptoBulk d + 1
 end
def uptoSmall : (H : Type) → List (DataW H) → Bool := fun _ ds => decide (uptoBulkAll ds ≤ 1048576)
def OpenSpec.upto (s : _root_.Go.ChangeSpec) : _root_.Go.OpenSpec := { _root_.Go.OpenSpec.ofChange s with cond := some uptoSmall }

/-- 'laws.FnExactDigraphBound', WHERE WHAT IT READS IS OF BULK AT MOST 1048576: true; the input reads as it did. -/
def fnExactDigraphBoundUptoRow : OpenClaim := { program := "ytjebhipbdledfaa", sum := "b7c8646dd7ec2d1af09f5a2b879401094c822decc8ddf9d59413ce77c084684c", func := "loop.example/g01331/laws.FnExactDigraphBound", spec := "fnExactDigraphBound", apart := false, narrowed := true }
def FnExactDigraphBoundUptoSaid : Prop := fnExactDigraphBoundUptoRow.holds Try.pinned (OpenSpec.upto fnExactDigraphBoundSpec)

/-- 'laws.FnExactIsDigraph', WHERE WHAT IT READS IS OF BULK AT MOST 1048576: true; the input reads as it did. -/
def fnExactIsDigraphUptoRow : OpenClaim := { program := "ytjebhipbdledfaa", sum := "b7c8646dd7ec2d1af09f5a2b879401094c822decc8ddf9d59413ce77c084684c", func := "loop.example/g01331/laws.FnExactIsDigraph", spec := "fnExactIsDigraph", unfollowed := true, recurses := true, apart := false, narrowed := true }
def FnExactIsDigraphUptoSaid : Prop := fnExactIsDigraphUptoRow.holds Try.pinned (OpenSpec.upto fnExactIsDigraphSpec)

/-- 'laws.FnExactWordSequence', WHERE WHAT IT READS IS OF BULK AT MOST 1048576: true; the input reads as it did. -/
def fnExactWordSequenceUptoRow : OpenClaim := { program := "ytjebhipbdledfaa", sum := "b7c8646dd7ec2d1af09f5a2b879401094c822decc8ddf9d59413ce77c084684c", func := "loop.example/g01331/laws.FnExactWordSequence", spec := "fnExactWordSequence", unfollowed := true, recurses := true, apart := false, narrowed := true }
def FnExactWordSequenceUptoSaid : Prop := fnExactWordSequenceUptoRow.holds Try.pinned (OpenSpec.upto fnExactWordSequenceSpec)

/-- 'laws.FnExactProductIn', WHERE WHAT IT READS IS OF BULK AT MOST 1048576: true; the input reads as it did. -/
def fnExactProductInUptoRow : OpenClaim := { program := "ytjebhipbdledfaa", sum := "b7c8646dd7ec2d1af09f5a2b879401094c822decc8ddf9d59413ce77c084684c", func := "loop.example/g01331/laws.FnExactProductIn", spec := "fnExactProductIn", apart := false, narrowed := true }
def FnExactProductInUptoSaid : Prop := fnExactProductInUptoRow.holds Try.pinned (OpenSpec.upto fnExactProductInSpec)

/-- 'laws.FnExactOrderOf', WHERE WHAT IT READS IS OF BULK AT MOST 1048576: true; the input reads as it did. -/
def fnExactOrderOfUptoRow : OpenClaim := { program := "ytjebhipbdledfaa", sum := "b7c8646dd7ec2d1af09f5a2b879401094c822decc8ddf9d59413ce77c084684c", func := "loop.example/g01331/laws.FnExactOrderOf", spec := "fnExactOrderOf", apart := false, narrowed := true }
def FnExactOrderOfUptoSaid : Prop := fnExactOrderOfUptoRow.holds Try.pinned (OpenSpec.upto fnExactOrderOfSpec)

/-- 'laws.FnExactInverseIn', WHERE WHAT IT READS IS OF BULK AT MOST 1048576: true; the input reads as it did. -/
def fnExactInverseInUptoRow : OpenClaim := { program := "ytjebhipbdledfaa", sum := "b7c8646dd7ec2d1af09f5a2b879401094c822decc8ddf9d59413ce77c084684c", func := "loop.example/g01331/laws.FnExactInverseIn", spec := "fnExactInverseIn", apart := false, narrowed := true }
def FnExactInverseInUptoSaid : Prop := fnExactInverseInUptoRow.holds Try.pinned (OpenSpec.upto fnExactInverseInSpec)

/-- 'laws.FnExactKautzWords', WHERE WHAT IT READS IS OF BULK AT MOST 1048576: true; the input reads as it did. -/
def fnExactKautzWordsUptoRow : OpenClaim := { program := "ytjebhipbdledfaa", sum := "b7c8646dd7ec2d1af09f5a2b879401094c822decc8ddf9d59413ce77c084684c", func := "loop.example/g01331/laws.FnExactKautzWords", spec := "fnExactKautzWords", recurses := true, apart := false, narrowed := true }
def FnExactKautzWordsUptoSaid : Prop := fnExactKautzWordsUptoRow.holds Try.pinned (OpenSpec.upto fnExactKautzWordsSpec)

/-- 'laws.FnExactReverseDigraph', WHERE WHAT IT READS IS OF BULK AT MOST 1048576: true; the input reads as it did. -/
def fnExactReverseDigraphUptoRow : OpenClaim := { program := "ytjebhipbdledfaa", sum := "b7c8646dd7ec2d1af09f5a2b879401094c822decc8ddf9d59413ce77c084684c", func := "loop.example/g01331/laws.FnExactReverseDigraph", spec := "fnExactReverseDigraph", unfollowed := true, recurses := true, apart := false, narrowed := true }
def FnExactReverseDigraphUptoSaid : Prop := fnExactReverseDigraphUptoRow.holds Try.pinned (OpenSpec.upto fnExactReverseDigraphSpec)

/-- 'laws.FnExactDigraphOf', WHERE WHAT IT READS IS OF BULK AT MOST 1048576: true; the input reads as it did. -/
def fnExactDigraphOfUptoRow : OpenClaim := { program := "ytjebhipbdledfaa", sum := "b7c8646dd7ec2d1af09f5a2b879401094c822decc8ddf9d59413ce77c084684c", func := "loop.example/g01331/laws.FnExactDigraphOf", spec := "fnExactDigraphOf", apart := false, narrowed := true }
def FnExactDigraphOfUptoSaid : Prop := fnExactDigraphOfUptoRow.holds Try.pinned (OpenSpec.upto fnExactDigraphOfSpec)

/-- 'laws.FnExactEdgesLeft', WHERE WHAT IT READS IS OF BULK AT MOST 1048576: true; the input reads as it did. -/
def fnExactEdgesLeftUptoRow : OpenClaim := { program := "ytjebhipbdledfaa", sum := "b7c8646dd7ec2d1af09f5a2b879401094c822decc8ddf9d59413ce77c084684c", func := "loop.example/g01331/laws.FnExactEdgesLeft", spec := "fnExactEdgesLeft", apart := false, narrowed := true }
def FnExactEdgesLeftUptoSaid : Prop := fnExactEdgesLeftUptoRow.holds Try.pinned (OpenSpec.upto fnExactEdgesLeftSpec)

/-- 'laws.FnExactDegreesOf', WHERE WHAT IT READS IS OF BULK AT MOST 1048576: true; the input reads as it did. -/
def fnExactDegreesOfUptoRow : OpenClaim := { program := "ytjebhipbdledfaa", sum := "b7c8646dd7ec2d1af09f5a2b879401094c822decc8ddf9d59413ce77c084684c", func := "loop.example/g01331/laws.FnExactDegreesOf", spec := "fnExactDegreesOf", apart := false, narrowed := true }
def FnExactDegreesOfUptoSaid : Prop := fnExactDegreesOfUptoRow.holds Try.pinned (OpenSpec.upto fnExactDegreesOfSpec)

end Rows
end Go.Proofs.Ytjebhipbdledfaa
