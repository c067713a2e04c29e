/-
  No cell of these rows narrows 'for every input' (looked for: loops, veiled, ifaces, maps, wideKeys, modest, calm, conditions, laid).
  DERIVED. THE GIVEN ROWS OF THIS SEAT. 7 by the template 'for every input the law returns true; each argument reads behind the call as it read before'; 0 by the template 'total and deterministic' (their statements: YtcffgfomicpbfaaTotals.lean).
  GIVEN WITH THE SEED: the statements are not yours to turn. If you find one false, say at which input.
  Laid BY PROGRAM, IN A SANDBOX (cutbox-rows.mjs): the forced cells as the released guide's own fill.sh prints them over the translation 052ea4c360bf1d0c… (all of the seat's roots in one cut). By AI agents, Wed Nov 11 2026. No macro, syntax, notation, axiom, sorry.
-/
import Derived.Test.YtcffgfomicpbfaaChecked
import GoSem.Claim
import GoSem.ClaimJoined
import GoSem.ClaimMapViews
import Derived.JoinedTies
import Derived.KernelRfl
namespace Go.Proofs.Ytcffgfomicpbfaa
/- THE CELL 'sum', in the pinned program and in every row, IS THE sha256 OF THE DUMP (.gsa) THAT YtcffgfomicpbfaaProg.lean LOADS. Nothing in Lean hashes anything: it is a label: what it is worth is what the hold of that sum in a sandbox is worth. -/
noncomputable def Try.pinned : Pinned := { name := "ytcffgfomicpbfaa", sum := "052ea4c360bf1d0cd5435252600324eb5582cd6260b514845a1ad98a75489475", checked := Try.checked }
namespace Rows
def none {H : Type} : Left H := { results := [], args := [] }

/-- 'laws.FnExactWordSequence': WHATEVER THE INPUT: true; the input reads as it did. -/
def fnExactWordSequenceSpec : ChangeSpec := { name := "fnExactWordSequence", fn := fun _ => fun
  | [d1, d2] => { results := [.lit (.bool true)], args := [d1, d2] }
  | _ => none }
def fnExactWordSequenceRow : OpenClaim := { program := "ytcffgfomicpbfaa", sum := "052ea4c360bf1d0cd5435252600324eb5582cd6260b514845a1ad98a75489475", func := "loop.example/g01331/laws.FnExactWordSequence", spec := "fnExactWordSequence", unfollowed := true, recurses := true, apart := false }
def FnExactWordSequenceSaid : Prop := fnExactWordSequenceRow.holds Try.pinned (OpenSpec.ofChange fnExactWordSequenceSpec)

/-- ITS FALSE NEIGHBOUR: 'it returns false'. Refute it at one input. -/
def fnExactWordSequenceWrong : ChangeSpec := { name := "fnExactWordSequence", fn := fun _ => fun
  | [d1, d2] => { results := [.lit (.bool false)], args := [d1, d2] }
  | _ => none }
def FnExactWordSequenceWrongFalsely : Prop := fnExactWordSequenceRow.holds Try.pinned (OpenSpec.ofChange fnExactWordSequenceWrong)

/-- 'laws.FnExactKautzWords': WHATEVER THE INPUT: true; the input reads as it did. -/
def fnExactKautzWordsSpec : ChangeSpec := { name := "fnExactKautzWords", fn := fun _ => fun
  | [d1, d2] => { results := [.lit (.bool true)], args := [d1, d2] }
  | _ => none }
def fnExactKautzWordsRow : OpenClaim := { program := "ytcffgfomicpbfaa", sum := "052ea4c360bf1d0cd5435252600324eb5582cd6260b514845a1ad98a75489475", func := "loop.example/g01331/laws.FnExactKautzWords", spec := "fnExactKautzWords", recurses := true, apart := false }
def FnExactKautzWordsSaid : Prop := fnExactKautzWordsRow.holds Try.pinned (OpenSpec.ofChange fnExactKautzWordsSpec)

/-- ITS FALSE NEIGHBOUR: 'it returns false'. Refute it at one input. -/
def fnExactKautzWordsWrong : ChangeSpec := { name := "fnExactKautzWords", fn := fun _ => fun
  | [d1, d2] => { results := [.lit (.bool false)], args := [d1, d2] }
  | _ => none }
def FnExactKautzWordsWrongFalsely : Prop := fnExactKautzWordsRow.holds Try.pinned (OpenSpec.ofChange fnExactKautzWordsWrong)

/-- 'laws.FnExactDeBruijnDigraph': WHATEVER THE INPUT: true; the input reads as it did. -/
def fnExactDeBruijnDigraphSpec : ChangeSpec := { name := "fnExactDeBruijnDigraph", fn := fun _ => fun
  | [d1, d2] => { results := [.lit (.bool true)], args := [d1, d2] }
  | _ => none }
def fnExactDeBruijnDigraphRow : OpenClaim := { program := "ytcffgfomicpbfaa", sum := "052ea4c360bf1d0cd5435252600324eb5582cd6260b514845a1ad98a75489475", func := "loop.example/g01331/laws.FnExactDeBruijnDigraph", spec := "fnExactDeBruijnDigraph", unfollowed := true, recurses := true, apart := false }
def FnExactDeBruijnDigraphSaid : Prop := fnExactDeBruijnDigraphRow.holds Try.pinned (OpenSpec.ofChange fnExactDeBruijnDigraphSpec)

/-- ITS FALSE NEIGHBOUR: 'it returns false'. Refute it at one input. -/
def fnExactDeBruijnDigraphWrong : ChangeSpec := { name := "fnExactDeBruijnDigraph", fn := fun _ => fun
  | [d1, d2] => { results := [.lit (.bool false)], args := [d1, d2] }
  | _ => none }
def FnExactDeBruijnDigraphWrongFalsely : Prop := fnExactDeBruijnDigraphRow.holds Try.pinned (OpenSpec.ofChange fnExactDeBruijnDigraphWrong)

/-- 'laws.FnExactConeOf': WHATEVER THE INPUT: true; the input reads as it did. -/
def fnExactConeOfSpec : ChangeSpec := { name := "fnExactConeOf", fn := fun _ => fun
  | [d] => { results := [.lit (.bool true)], args := [d] }
  | _ => none }
def fnExactConeOfRow : OpenClaim := { program := "ytcffgfomicpbfaa", sum := "052ea4c360bf1d0cd5435252600324eb5582cd6260b514845a1ad98a75489475", func := "loop.example/g01331/laws.FnExactConeOf", spec := "fnExactConeOf", apart := false }
def FnExactConeOfSaid : Prop := fnExactConeOfRow.holds Try.pinned (OpenSpec.ofChange fnExactConeOfSpec)

/-- ITS FALSE NEIGHBOUR: 'it returns false'. Refute it at one input. -/
def fnExactConeOfWrong : ChangeSpec := { name := "fnExactConeOf", fn := fun _ => fun
  | [d] => { results := [.lit (.bool false)], args := [d] }
  | _ => none }
def FnExactConeOfWrongFalsely : Prop := fnExactConeOfRow.holds Try.pinned (OpenSpec.ofChange fnExactConeOfWrong)

/-- 'laws.FnExactKautzDigraph': WHATEVER THE INPUT: true; the input reads as it did. -/
def fnExactKautzDigraphSpec : ChangeSpec := { name := "fnExactKautzDigraph", fn := fun _ => fun
  | [d1, d2] => { results := [.lit (.bool true)], args := [d1, d2] }
  | _ => none }
def fnExactKautzDigraphRow : OpenClaim := { program := "ytcffgfomicpbfaa", sum := "052ea4c360bf1d0cd5435252600324eb5582cd6260b514845a1ad98a75489475", func := "loop.example/g01331/laws.FnExactKautzDigraph", spec := "fnExactKautzDigraph", unfollowed := true, recurses := true, apart := false }
def FnExactKautzDigraphSaid : Prop := fnExactKautzDigraphRow.holds Try.pinned (OpenSpec.ofChange fnExactKautzDigraphSpec)

/-- ITS FALSE NEIGHBOUR: 'it returns false'. Refute it at one input. -/
def fnExactKautzDigraphWrong : ChangeSpec := { name := "fnExactKautzDigraph", fn := fun _ => fun
  | [d1, d2] => { results := [.lit (.bool false)], args := [d1, d2] }
  | _ => none }
def FnExactKautzDigraphWrongFalsely : Prop := fnExactKautzDigraphRow.holds Try.pinned (OpenSpec.ofChange fnExactKautzDigraphWrong)

/-- 'laws.FnExactDegreeOfDigraph': WHATEVER THE INPUT: true; the input reads as it did. -/
def fnExactDegreeOfDigraphSpec : ChangeSpec := { name := "fnExactDegreeOfDigraph", fn := fun _ => fun
  | [d] => { results := [.lit (.bool true)], args := [d] }
  | _ => none }
def fnExactDegreeOfDigraphRow : OpenClaim := { program := "ytcffgfomicpbfaa", sum := "052ea4c360bf1d0cd5435252600324eb5582cd6260b514845a1ad98a75489475", func := "loop.example/g01331/laws.FnExactDegreeOfDigraph", spec := "fnExactDegreeOfDigraph", unfollowed := true, recurses := true, apart := false }
def FnExactDegreeOfDigraphSaid : Prop := fnExactDegreeOfDigraphRow.holds Try.pinned (OpenSpec.ofChange fnExactDegreeOfDigraphSpec)

/-- ITS FALSE NEIGHBOUR: 'it returns false'. Refute it at one input. -/
def fnExactDegreeOfDigraphWrong : ChangeSpec := { name := "fnExactDegreeOfDigraph", fn := fun _ => fun
  | [d] => { results := [.lit (.bool false)], args := [d] }
  | _ => none }
def FnExactDegreeOfDigraphWrongFalsely : Prop := fnExactDegreeOfDigraphRow.holds Try.pinned (OpenSpec.ofChange fnExactDegreeOfDigraphWrong)

/-- 'laws.FnExactParametersOf': WHATEVER THE INPUT: true; the input reads as it did. -/
def fnExactParametersOfSpec : ChangeSpec := { name := "fnExactParametersOf", fn := fun _ => fun
  | [d] => { results := [.lit (.bool true)], args := [d] }
  | _ => none }
def fnExactParametersOfRow : OpenClaim := { program := "ytcffgfomicpbfaa", sum := "052ea4c360bf1d0cd5435252600324eb5582cd6260b514845a1ad98a75489475", func := "loop.example/g01331/laws.FnExactParametersOf", spec := "fnExactParametersOf", apart := false }
def FnExactParametersOfSaid : Prop := fnExactParametersOfRow.holds Try.pinned (OpenSpec.ofChange fnExactParametersOfSpec)

/-- ITS FALSE NEIGHBOUR: 'it returns false'. Refute it at one input. -/
def fnExactParametersOfWrong : ChangeSpec := { name := "fnExactParametersOf", fn := fun _ => fun
  | [d] => { results := [.lit (.bool false)], args := [d] }
  | _ => none }
def FnExactParametersOfWrongFalsely : Prop := fnExactParametersOfRow.holds Try.pinned (OpenSpec.ofChange fnExactParametersOfWrong)

/- THE SECOND FORM. 'bulk': how many values and letters a reading holds, each counted each time it is reached (what is shared counts as often as it is met; a slice's spare places count too). A statement '..UptoSaid' is the law's where the arguments, and the package variables that the reading takes, are together of bulk at most 1048576: NARROWER than '..Said'. Prove '..Said' where nothing that the law and all that it calls make is longer than what came in: it says more and counts as full. Else prove '..UptoSaid'. A law counts once. -/
mutual
def uptoBulk {H : Type} : DataW H → Nat
  | .lit (.string bytes) => bytes.length + 1
  | .lit _ => 1
  | .nil => 1
  | .ptr d => uptoBulk d + 1
  | .slice elems spare => uptoBulkAll elems + uptoBulkAll spare + 1
  | .agg parts => uptoBulkAll parts + 1
  | .iface _ d => uptoBulk d + 1
  | .map entries => uptoBulkEntries entries + 1
  | .held _ => 1
def uptoBulkAll {H : Type} : List (DataW H) → Nat
  | [] => 0
  | d :: r => uptoBulk d + uptoBulkAll r
def uptoBulkEntries {H : Type} : List (Lit × DataW H) → Nat
  | [] => 0
  | x :: r => uptoBulkEntry x + uptoBulkEntries r
def uptoBulkEntry {H : Type} : Lit × DataW H → Nat
  | (.string bytes, d) => bytes.length + uptoBulk d + 1
  | (_, d) => uptoBulk d + 1
 end
def uptoSmall : (H : Type) → List (DataW H) → Bool := fun _ ds => decide (uptoBulkAll ds ≤ 1048576)
def OpenSpec.upto (s : _root_.Go.ChangeSpec) : _root_.Go.OpenSpec := { _root_.Go.OpenSpec.ofChange s with cond := some uptoSmall }

/-- 'laws.FnExactWordSequence', WHERE WHAT IT READS IS OF BULK AT MOST 1048576: true; the input reads as it did. -/
def fnExactWordSequenceUptoRow : OpenClaim := { program := "ytcffgfomicpbfaa", sum := "052ea4c360bf1d0cd5435252600324eb5582cd6260b514845a1ad98a75489475", func := "loop.example/g01331/laws.FnExactWordSequence", spec := "fnExactWordSequence", unfollowed := true, recurses := true, apart := false, narrowed := true }
def FnExactWordSequenceUptoSaid : Prop := fnExactWordSequenceUptoRow.holds Try.pinned (OpenSpec.upto fnExactWordSequenceSpec)

/-- 'laws.FnExactKautzWords', WHERE WHAT IT READS IS OF BULK AT MOST 1048576: true; the input reads as it did. -/
def fnExactKautzWordsUptoRow : OpenClaim := { program := "ytcffgfomicpbfaa", sum := "052ea4c360bf1d0cd5435252600324eb5582cd6260b514845a1ad98a75489475", func := "loop.example/g01331/laws.FnExactKautzWords", spec := "fnExactKautzWords", recurses := true, apart := false, narrowed := true }
def FnExactKautzWordsUptoSaid : Prop := fnExactKautzWordsUptoRow.holds Try.pinned (OpenSpec.upto fnExactKautzWordsSpec)

/-- 'laws.FnExactDeBruijnDigraph', WHERE WHAT IT READS IS OF BULK AT MOST 1048576: true; the input reads as it did. -/
def fnExactDeBruijnDigraphUptoRow : OpenClaim := { program := "ytcffgfomicpbfaa", sum := "052ea4c360bf1d0cd5435252600324eb5582cd6260b514845a1ad98a75489475", func := "loop.example/g01331/laws.FnExactDeBruijnDigraph", spec := "fnExactDeBruijnDigraph", unfollowed := true, recurses := true, apart := false, narrowed := true }
def FnExactDeBruijnDigraphUptoSaid : Prop := fnExactDeBruijnDigraphUptoRow.holds Try.pinned (OpenSpec.upto fnExactDeBruijnDigraphSpec)

/-- 'laws.FnExactConeOf', WHERE WHAT IT READS IS OF BULK AT MOST 1048576: true; the input reads as it did. -/
def fnExactConeOfUptoRow : OpenClaim := { program := "ytcffgfomicpbfaa", sum := "052ea4c360bf1d0cd5435252600324eb5582cd6260b514845a1ad98a75489475", func := "loop.example/g01331/laws.FnExactConeOf", spec := "fnExactConeOf", apart := false, narrowed := true }
def FnExactConeOfUptoSaid : Prop := fnExactConeOfUptoRow.holds Try.pinned (OpenSpec.upto fnExactConeOfSpec)

/-- 'laws.FnExactKautzDigraph', WHERE WHAT IT READS IS OF BULK AT MOST 1048576: true; the input reads as it did. -/
def fnExactKautzDigraphUptoRow : OpenClaim := { program := "ytcffgfomicpbfaa", sum := "052ea4c360bf1d0cd5435252600324eb5582cd6260b514845a1ad98a75489475", func := "loop.example/g01331/laws.FnExactKautzDigraph", spec := "fnExactKautzDigraph", unfollowed := true, recurses := true, apart := false, narrowed := true }
def FnExactKautzDigraphUptoSaid : Prop := fnExactKautzDigraphUptoRow.holds Try.pinned (OpenSpec.upto fnExactKautzDigraphSpec)

/-- 'laws.FnExactDegreeOfDigraph', WHERE WHAT IT READS IS OF BULK AT MOST 1048576: true; the input reads as it did. -/
def fnExactDegreeOfDigraphUptoRow : OpenClaim := { program := "ytcffgfomicpbfaa", sum := "052ea4c360bf1d0cd5435252600324eb5582cd6260b514845a1ad98a75489475", func := "loop.example/g01331/laws.FnExactDegreeOfDigraph", spec := "fnExactDegreeOfDigraph", unfollowed := true, recurses := true, apart := false, narrowed := true }
def FnExactDegreeOfDigraphUptoSaid : Prop := fnExactDegreeOfDigraphUptoRow.holds Try.pinned (OpenSpec.upto fnExactDegreeOfDigraphSpec)

/-- 'laws.FnExactParametersOf', WHERE WHAT IT READS IS OF BULK AT MOST 1048576: true; the input reads as it did. -/
def fnExactParametersOfUptoRow : OpenClaim := { program := "ytcffgfomicpbfaa", sum := "052ea4c360bf1d0cd5435252600324eb5582cd6260b514845a1ad98a75489475", func := "loop.example/g01331/laws.FnExactParametersOf", spec := "fnExactParametersOf", apart := false, narrowed := true }
def FnExactParametersOfUptoSaid : Prop := fnExactParametersOfUptoRow.holds Try.pinned (OpenSpec.upto fnExactParametersOfSpec)

end Rows
end Go.Proofs.Ytcffgfomicpbfaa
